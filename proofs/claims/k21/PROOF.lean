import PyProof.Rows.All
import Wide.All
import OpenK.AllK
import Wide.FinOn
import HandS.ForMost
import HandS.StrMore
import HandS.Wide
import HandS.IsInst
import HandS.Flow
import HandS.Codes
import HandS.Deep
import HandS.EndBits
import HandS.Walk
import KE.DataEq
import HandS.OwnEq
import HandS.Comp
import HandS.Property
import KE.KIsAll
import KE.KExcIs
import HandS.Exc
import HandS.ExcOwn
import HandS.ExcInit
import HandS.ExcField
import HandS.ExcIs
import HandS.TryOnly
import HandS.TryMany
import HandS.CallSlots
import HandS.WordsExc
import HandS.Small
import HandS.FStr
import HandS.More
import KE.KeyNested
import KE.KDictKeyed
import HandS.TupLen
import HandS.Iter
import HandS.DictComp
import HandS.List
import KE.GoesZip
import KE.GoesMore
import HandS.Zip
import HandS.Style
import KE.KStateDown
import HandS.Head0
import HandS.Head1
import HandS.Head2
import HandS.HeadEnd
import HandS.HeadHook1
import HandS.HeadHook2
import PySem.Challenge.RW_livequill_k21_maps_by_methods
set_option Elab.async false
set_option linter.all false
set_option maxRecDepth 100000
/-! Fx: readings that compute: every operation is one function of its values, whatever their kinds. -/
namespace Fx
open PySem PySem.Spec PyProof.Rows L2

/-! ### weakening -/
section
variable {X : Cx}
theorem pe_wk {e : Expr} {t t' : TE} (h : PE X e t) (w : ∀ σ H Q, t' σ H Q → t σ H Q) : PE X e t' := ⟨fun pins s σ H Q I q => h.run pins s σ H Q I (w σ H Q q)⟩
theorem pt_wk {e : Expr} {t t' : TT} (h : PT X e t) (w : ∀ σ H Q, t' σ H Q → t σ H Q) : PT X e t' := ⟨fun pins s σ H Q I q => h.run pins s σ H Q I (w σ H Q q)⟩
theorem ps_wk {e : Stmt} {t t' : TS} (h : PS X e t) (w : ∀ D σ H, t' D σ H → t D σ H) : PS X e t' := ⟨fun pins s σ H D I q => h.run pins s σ H D I (w D σ H q)⟩
theorem op_wk {f : Value → Value → Sem Value} {r r' : R2} (h : OpR X f r) (w : ∀ x y H Q, r' x y H Q → r x y H Q) : OpR X f r' := fun pins s σ H x y v u Q I rx ry q => h pins s σ H x y v u Q I rx ry (w x y H Q q)
theorem call_wk {f : Value} {r r' : List V → Hp → VK → Prop} (h : CallR X f r) (w : ∀ xs H Q, r' xs H Q → r xs H Q) : CallR X f r' := fun pins s σ H xs us Q I rx q => h pins s σ H xs us Q I rx (w xs H Q q)

/-! ### names -/
def fVar (i : Nat) : TE := fun σ H Q => match σ[i]? with
  | some (some v) => Q v H
  | _ => False
theorem fe_var (i : Nat) {x : Str} {pos : Pos} (hN : X.N[i]? = some x := by rfl) (hv : Vis X.env.scope x := by first | exact Or.inl rfl | exact Or.inr (Or.inl rfl) | exact Or.inr (Or.inr rfl)) (hd : (x == ("__debug__" : Str)) = false := by decide)
    (hcd : (x == ("__classdict__" : Str)) = false := by decide) : PE X (.Name x pos) (fVar i) := pe_wk (pe_var hN hv hd hcd) fun σ H Q q => by
  unfold fVar at q
  split at q
  · exact ⟨_, by assumption, q⟩
  · exact q.elim

theorem same_new {H : Hp} {p : Addr} {o : HO} (h : H p = none) : Same H (upd H p o) := fun b x e => by
  rw [upd_ne (ne_of_none e h)]
  exact e
/-- a new tuple, a new list: behind it a heap that has it and keeps the rest -/
def fTup (t : TA) : TE := fun σ H Q => t σ H fun xs H1 => xs.length ≤ 100000 ∧ ∀ p H2, H1 p = none → Same H1 H2 → H2 p = some (.tup xs) → Q (.ref p) H2
def fLst (t : TA) : TE := fun σ H Q => t σ H fun xs H1 => xs.length ≤ 100000 ∧ ∀ p H2, H1 p = none → Same H1 H2 → H2 p = some (.lst xs) → Q (.ref p) H2
theorem line5 {n : Nat} (h : n ≤ 100000) : n ≤ sizeLine := Nat.le_trans h (by decide)
section
variable {es : List Expr} {t : TA} {pos : Pos}
theorem fe_tup {x1} (h : PA X es t) : PE X (.Tuple es x1 pos) (fTup t) := by
  refine ⟨fun pins s σ H Q I hq => ?_⟩
  refine wpAny_Tuple_spliced (thn (h.run pos pins s σ H _ I hq) fun us s1 ⟨xs, H1, I1, r, z, q⟩ => ⟨by rw [← r.length]; exact line5 z, ?_⟩)
  have hf : H1 s1.heap.objs.size = none := I1.hok.fresh (Nat.le_refl _)
  refine ⟨.ref s1.heap.objs.size, upd H1 s1.heap.objs.size (.tup xs), I1.laid (t' := s1.toks) (fun b u e => Heap.get?_push_of_some _ e) (Nat.le_refl _) ?_, rfl, q _ _ hf (same_new hf) upd_same⟩
  exact ⟨line5 z, us, r, ⟨_, Heap.get?_push_size _ rfl, rfl, _, rfl⟩⟩
theorem fe_lst (h : PA X es t) : PE X (.List es pos) (fLst t) := by
  refine ⟨fun pins s σ H Q I hq => ?_⟩
  refine wpAny_List_spliced (thn (h.run pos pins s σ H _ I hq) fun us s1 ⟨xs, H1, I1, r, z, q⟩ => ⟨by rw [← r.length]; exact line5 z, ?_⟩)
  have hf : H1 s1.heap.objs.size = none := I1.hok.fresh (Nat.le_refl _)
  refine ⟨.ref s1.heap.objs.size, upd H1 s1.heap.objs.size (.lst xs), I1.laid (t' := s1.toks) (fun b u e => Heap.get?_push_of_some _ e) (Nat.le_refl _) ?_, rfl, q _ _ hf (same_new hf) upd_same⟩
  exact ⟨line5 z, us, 0, r, Heap.get?_push_size _ rfl⟩
end
/-! ### a list or a tuple that is read -/
def Rl (K : PySem.W.Frag) (H : Hp) (a : Addr) (xs : List V) : Prop := SqL K H a xs ∨ SqT K H a xs
theorem rl_l {K : PySem.W.Frag} {H : Hp} {a : Addr} {xs : List V} (h : H a = some (.lst xs)) : Rl K H a xs := .inl (SqL.of h)
theorem rl_t {K : PySem.W.Frag} {H : Hp} {a : Addr} {xs : List V} (h : H a = some (.tup xs)) : Rl K H a xs := .inr (SqT.of h)

/-! ### operators by values -/
def fAdd (K : PySem.W.Frag) : R2 := fun x y H Q => match x, y with
  | .int i, .int j => Q (.int (i + j)) H
  | .str a, .str b => a.length + b.length ≤ sizeLine ∧ Q (.str (a ++ b)) H
  | .ref l, .ref b => match H l, H b with
    | some (.lst xs), some (.lst zs) => xs.length + zs.length ≤ sizeLine ∧ ∀ p H1, H p = none → Same H H1 → H1 p = some (.lst (xs ++ zs)) → Q (.ref p) H1
    | _, _ => False
  | _, _ => False
theorem op_fAdd : OpR X (binaryOp .Add) (fAdd X.K) := by
  intro pins s σ H x y v u Q I rx ry h
  cases x <;> cases y <;> first
    | exact False.elim h
    | exact op_add pins s σ H _ _ v u Q I rx ry ⟨_, _, rfl, rfl, h⟩
    | exact op_add_str pins s σ H _ _ v u Q I rx ry ⟨_, _, rfl, rfl, h⟩
    | (dsimp only [fAdd] at h
       split at h
       · exact op_cat pins s σ H _ _ v u Q I rx ry ⟨_, _, _, _, rfl, rfl, by assumption, by assumption, h.1, fun p np => h.2 p _ np (same_new np) upd_same⟩
       · exact h.elim)
def fSub : R2 := fun x y H Q => match x, y with
  | .int i, .int j => Q (.int (i - j)) H
  | _, _ => False
theorem op_fSub : OpR X (binaryOp .Sub) fSub := by
  intro pins s σ H x y v u Q I rx ry h
  cases x <;> cases y <;> first
    | exact False.elim h
    | exact op_sub pins s σ H _ _ v u Q I rx ry ⟨_, _, rfl, rfl, h⟩
def fMul : R2 := fun x y H Q => match x, y with
  | .int i, .int j => IntMulOk i j ∧ Q (.int (i * j)) H
  | .str a, .int j => MulOk a j ∧ Q (.str (Txt.mul a j)) H
  | .ref l, .int k => rRep (.ref l) (.int k) H Q
  | _, _ => False
theorem op_fMul : OpR X (binaryOp .Mult) fMul := by
  intro pins s σ H x y v u Q I rx ry h
  match x, y, rx, ry, h with
  | .int i, .int j, ⟨t, e⟩, ⟨t', e'⟩, ⟨hm, q⟩ =>
    subst e e'
    exact mul_int ⟨.int _, H, I.tok _, ⟨_, rfl⟩, q⟩ hm
  | .str a, .int j, ⟨t, e⟩, ⟨t', e'⟩, ⟨hm, q⟩ =>
    subst e e'
    exact SB.mul hm fun t' k => ⟨.str _, H, I.tok _, ⟨_, rfl⟩, q⟩
  | .ref l, .int k, rx, ry, h => exact op_rep pins s σ H _ _ v u Q I rx ry h
def fDiv : R2 := fun x y H Q => match x, y with
  | .int i, .int j => CDivW i j ∧ Q (.int (i / j)) H
  | _, _ => False
theorem op_fDiv : OpR X (binaryOp .FloorDiv) fDiv := by
  intro pins s σ H x y v u Q I rx ry h
  cases x <;> cases y <;> first
    | exact False.elim h
    | exact op_fdivW pins s σ H _ _ v u Q I rx ry ⟨_, _, rfl, rfl, h⟩
def fMod : R2 := fun x y H Q => match x, y with
  | .int i, .int j => 0 < j ∧ Q (.int (i % j)) H
  | _, _ => False
theorem op_fMod : OpR X (binaryOp .Mod) fMod := by
  intro pins s σ H x y v u Q I rx ry h
  cases x <;> cases y <;> first
    | exact False.elim h
    | exact op_mod pins s σ H _ _ v u Q I rx ry ⟨_, _, rfl, rfl, h⟩
def fNeg : V → Hp → VK → Prop := fun x H Q => match x with
  | .int i => Q (.int (-i)) H
  | _ => False
theorem un_fNeg : UnR X (unaryOp .USub) fNeg := by
  intro pins s σ H x v Q I rx h
  cases x <;> first
    | exact False.elim h
    | exact un_neg pins s σ H _ v Q I rx ⟨_, rfl, h⟩
/-- data that == may look at -/
def okd (d : PyData) : Bool := d.plain && decide (d.depth ≤ 64)
/-- == of scalars as such, of lists and tuples as data -/
def fEq (K : PySem.W.Frag) (neg : Bool) : R2 := fun x y H Q =>
  if scal x y = true then Q (.bl (if neg = true then !decide (x = y) else decide (x = y))) H
  else ∃ d e, Dp K H x d ∧ Dp K H y e ∧ okd d = true ∧ okd e = true ∧ Q (.bl (if neg = true then !PyData.eqv d e else PyData.eqv d e)) H
theorem op_fEq (hu : X.A.units + 64 < cLine) : OpR X (compareOp .Eq) (fEq X.K false) := by
  intro pins s σ H x y v u Q I rx ry h
  unfold fEq at h
  split at h
  · exact op_eq pins s σ H x y v u Q I rx ry ⟨by assumption, h⟩
  · obtain ⟨d, e, hd, he, sd, se, q⟩ := h
    obtain ⟨as, r1⟩ := Dp.reads I d x v hd rx
    obtain ⟨bs, r2⟩ := Dp.reads I e y u he ry
    have sd := Bool.and_eq_true_iff.mp sd
    have se := Bool.and_eq_true_iff.mp se
    have d1 := of_decide_eq_true sd.2
    exact SeqAt.eq_plain r1 r2 sd.1 se.1 (by omega) ⟨.bl _, H, I, rfl, q⟩
theorem op_fNe (hu : X.A.units + 64 < cLine) : OpR X (compareOp .NotEq) (fEq X.K true) := by
  intro pins s σ H x y v u Q I rx ry h
  unfold fEq at h
  split at h
  · exact op_ne pins s σ H x y v u Q I rx ry ⟨by assumption, h⟩
  · obtain ⟨d, e, hd, he, sd, se, q⟩ := h
    obtain ⟨as, r1⟩ := Dp.reads I d x v hd rx
    obtain ⟨bs, r2⟩ := Dp.reads I e y u he ry
    have sd := Bool.and_eq_true_iff.mp sd
    have se := Bool.and_eq_true_iff.mp se
    have d1 := of_decide_eq_true sd.2
    exact SeqAt.ne_plain r1 r2 sd.1 se.1 (by omega) ⟨.bl _, H, I, rfl, q⟩
def fLt : R2 := fun x y H Q => match x, y with
  | .int i, .int j => Q (.bl (decide (i < j))) H
  | .str i, .str j => Q (.bl (decide (i.cps.toList < j.cps.toList))) H
  | _, _ => False
theorem op_fLt : OpR X (compareOp .Lt) fLt := by
  intro pins s σ H x y v u Q I rx ry h
  cases x <;> cases y <;> first
    | exact False.elim h
    | exact op_lt pins s σ H _ _ v u Q I rx ry ⟨_, _, rfl, rfl, h⟩
    | exact op_lt_str pins s σ H _ _ v u Q I rx ry ⟨_, _, rfl, rfl, h⟩
def fLe : R2 := fun x y H Q => match x, y with
  | .int i, .int j => Q (.bl (decide (i ≤ j))) H
  | .str i, .str j => Q (.bl (!decide (j.cps.toList < i.cps.toList))) H
  | _, _ => False
theorem op_fLe : OpR X (compareOp .LtE) fLe := by
  intro pins s σ H x y v u Q I rx ry h
  cases x <;> cases y <;> first
    | exact False.elim h
    | exact op_le pins s σ H _ _ v u Q I rx ry ⟨_, _, rfl, rfl, h⟩
    | exact op_le_str pins s σ H _ _ v u Q I rx ry ⟨_, _, rfl, rfl, h⟩
def fGt : R2 := fun x y H Q => match x, y with
  | .int i, .int j => Q (.bl (decide (j < i))) H
  | .str i, .str j => Q (.bl (decide (j.cps.toList < i.cps.toList))) H
  | _, _ => False
theorem op_fGt : OpR X (compareOp .Gt) fGt := by
  intro pins s σ H x y v u Q I rx ry h
  cases x <;> cases y <;> first
    | exact False.elim h
    | exact op_gt pins s σ H _ _ v u Q I rx ry ⟨_, _, rfl, rfl, h⟩
    | exact op_gt_str pins s σ H _ _ v u Q I rx ry ⟨_, _, rfl, rfl, h⟩
def fGe : R2 := fun x y H Q => match x, y with
  | .int i, .int j => Q (.bl (decide (j ≤ i))) H
  | .str i, .str j => Q (.bl (!decide (i.cps.toList < j.cps.toList))) H
  | _, _ => False
theorem op_fGe : OpR X (compareOp .GtE) fGe := by
  intro pins s σ H x y v u Q I rx ry h
  cases x <;> cases y <;> first
    | exact False.elim h
    | exact op_ge pins s σ H _ _ v u Q I rx ry ⟨_, _, rfl, rfl, h⟩
    | exact op_ge_str pins s σ H _ _ v u Q I rx ry ⟨_, _, rfl, rfl, h⟩
/-- x in y: one sign in a text; a text in a text; a flat value in a list or tuple of flat values -/
def fIn (K : PySem.W.Frag) (neg : Bool) : R2 := fun x y H Q => match x, y with
  | .str a, .str b => match a.cps.toList with
    | [c] => Q (.bl (if neg = true then !decide (c ∈ b.cps.toList) else decide (c ∈ b.cps.toList))) H
    | _ => Q (.bl (if neg = true then !(!(Builtin.Str.occurrences b a 0 b.length 1).isEmpty) else !(Builtin.Str.occurrences b a 0 b.length 1).isEmpty)) H
  | x, .ref p => ∃ xs, Rl K H p xs ∧ flatV x = true ∧ xs.all flatV = true ∧ Q (.bl (if neg = true then !inV x xs else inV x xs)) H
  | _, _ => False
theorem str_one {a : Str} {c : Nat} (h : a.cps.toList = [c]) : a = ⟨#[c]⟩ := by
  obtain ⟨⟨l⟩⟩ := a
  have h' : l = [c] := h
  subst h'
  rfl
theorem op_fIn : OpR X (compareOp .In) (fIn X.K false) := by
  intro pins s σ H x y v u Q I rx ry h
  cases y with
  | str b =>
    cases x with
    | str a =>
      dsimp only [fIn] at h
      split at h
      · rename_i c e
        cases str_one e
        exact op_in_sign pins s σ H _ _ v u Q I rx ry ⟨_, _, rfl, rfl, h⟩
      · exact op_in_str pins s σ H _ _ v u Q I rx ry ⟨_, _, rfl, rfl, h⟩
    | _ => exact False.elim h
  | ref p =>
    have h' : ∃ xs, Rl X.K H p xs ∧ flatV x = true ∧ xs.all flatV = true ∧ Q (.bl (if false = true then !inV x xs else inV x xs)) H := by
      cases x <;> exact h
    obtain ⟨xs, h1, h2, h3, h4⟩ := h'
    exact op_in_seq pins s σ H _ _ v u Q I rx ry ⟨p, xs, rfl, h1, h2, h3, h4⟩
  | _ => cases x <;> exact False.elim h
theorem op_fNotIn : OpR X (compareOp .NotIn) (fIn X.K true) := by
  intro pins s σ H x y v u Q I rx ry h
  cases y with
  | str b =>
    cases x with
    | str a =>
      dsimp only [fIn] at h
      split at h
      · rename_i c e
        cases str_one e
        exact op_notIn_sign pins s σ H _ _ v u Q I rx ry ⟨_, _, rfl, rfl, h⟩
      · exact op_notin_str pins s σ H _ _ v u Q I rx ry ⟨_, _, rfl, rfl, h⟩
    | _ => exact False.elim h
  | ref p =>
    have h' : ∃ xs, Rl X.K H p xs ∧ flatV x = true ∧ xs.all flatV = true ∧ Q (.bl (if true = true then !inV x xs else inV x xs)) H := by
      cases x <;> exact h
    obtain ⟨xs, h1, h2, h3, h4⟩ := h'
    exact op_notIn_seq pins s σ H _ _ v u Q I rx ry ⟨p, xs, rfl, h1, h2, h3, h4⟩
  | _ => cases x <;> exact False.elim h
/-- is, with None on the right -/
def fIsN : R2 := fun x y H Q => y = .non ∧ Q (.bl (decide (x = .non))) H
def fNotN : R2 := fun x y H Q => y = .non ∧ Q (.bl (!decide (x = .non))) H
theorem op_fIsN : OpR X (compareOp .Is) fIsN := op_isN
theorem op_fNotN : OpR X (compareOp .IsNot) fNotN := op_notN
/-- x[i] -/
def fIx (K : PySem.W.Frag) : R2 := fun x y H Q => match x, y with
  | .str z, .int i => z.length ≤ sizeLine ∧ ∃ c, atI z.cps.toList i = some c ∧ Q (.str ⟨#[c]⟩) H
  | .ref p, .int i => ∃ xs, Rl K H p xs ∧ ∃ v, atI xs i = some v ∧ Q v H
  | _, _ => False
theorem ix_fx : IxR X (fIx X.K) := by
  intro e1 e2 pins s σ H x y v u Q I rx ry h hs
  cases x <;> cases y <;> first
    | exact False.elim h
    | (obtain ⟨h1, c, h2, h3⟩ := h
       exact ix_str e1 e2 pins s σ H _ _ v u Q I rx ry ⟨_, _, c, rfl, rfl, h1, h2, h3⟩ hs)
    | (obtain ⟨xs, h1, w, h2, h3⟩ := h
       rcases h1 with h1 | h1
       · exact ix_list e1 e2 pins s σ H _ _ v u Q I rx ry ⟨_, xs, _, w, rfl, rfl, h1, h2, h3⟩ hs
       · exact ix_tup e1 e2 pins s σ H _ _ v u Q I rx ry ⟨_, xs, _, w, rfl, rfl, h1, h2, h3⟩ hs)
/-- x[lo:hi] of a text, of a list -/
def fSl (K : PySem.W.Frag) : V → Option Int → Option Int → Hp → VK → Prop := fun x lo hi H Q => match x with
  | .str z => z.length ≤ sizeLine ∧ Q (.str (cutS z lo hi)) H
  | .ref a => ∃ xs, SqL K H a xs ∧ ∀ p H1, H p = none → Same H H1 → H1 p = some (.lst (cutV xs lo hi)) → Q (.ref p) H1
  | _ => False
theorem sl_fx : SlR X (fSl X.K) := by
  intro pins s σ H x v vl vu lo hi sl Q I rx hs pl pu h
  cases x <;> first
    | exact False.elim h
    | exact sl_str pins s σ H _ v vl vu lo hi sl Q I rx hs pl pu ⟨_, rfl, h⟩
    | (obtain ⟨xs, h1, h2⟩ := h
       exact sl_list pins s σ H _ v vl vu lo hi sl Q I rx hs pl pu ⟨_, xs, rfl, h1, fun p np => h2 p _ np (same_new np) upd_same⟩)
/-- o[i] = v of a list -/
def fSet : TSet := fun o i v H Q => match o, i with
  | .ref p, .int k => match H p with
    | some (.lst xs) => ∃ j, ixN xs.length k = some j ∧ Q (upd H p (.lst (xs.set j v)))
    | _ => False
  | _, _ => False
theorem set_fx : PSet X fSet := by
  intro pins s σ H o i v ov iv u Q I ro ri rv h
  cases o <;> cases i <;> first
    | exact False.elim h
    | (dsimp only [fSet] at h
       split at h
       · obtain ⟨j, h2, h3⟩ := h
         exact set_list pins s σ H _ _ v ov iv u Q I ro ri rv ⟨_, _, _, j, rfl, rfl, by assumption, h2, h3⟩
       · exact h.elim)
/-- name += e -/
def fIAdd : TIp := fun x y H Q => match x, y with
  | .int i, .int j => Q (.int (i + j)) H
  | .str a, .str b => a.length + b.length ≤ sizeLine ∧ Q (.str (a ++ b)) H
  | _, _ => False
theorem ip_fAdd : PIp X .Add fIAdd := by
  intro pins s σ H x y v u Q I rx ry h
  cases x <;> cases y <;> first
    | exact False.elim h
    | exact ip_add pins s σ H _ _ v u Q I rx ry ⟨_, _, rfl, rfl, h⟩
    | exact iop_add_str pins s σ H _ _ v u Q I rx ry ⟨_, _, rfl, rfl, h⟩
def fISub : TIp := fun x y H Q => match x, y with
  | .int i, .int j => Q (.int (i - j)) H
  | _, _ => False
theorem ip_fSub : PIp X .Sub fISub := by
  intro pins s σ H x y v u Q I rx ry h
  cases x <;> cases y <;> first
    | exact False.elim h
    | exact ip_sub pins s σ H _ _ v u Q I rx ry ⟨_, _, rfl, rfl, h⟩
/-! ### built-in calls -/
def fLen (K : PySem.W.Frag) : List V → Hp → VK → Prop := fun xs H Q => match xs with
  | [.str z] => z.length ≤ sizeLine ∧ Q (.int z.length) H
  | [.ref p] => ∃ ys, Rl K H p ys ∧ Q (.int ys.length) H
  | _ => False
theorem call_fLen : CallR X (.builtin "len") (fLen X.K) := by
  intro pins s σ H xs us Q I r h
  match xs, r, h with
  | [.str z], r, h => exact call_len_str pins s σ H _ us Q I r ⟨z, rfl, h⟩
  | [.ref p], r, h =>
    obtain ⟨ys, h1, h2⟩ := h
    exact call_len_seq pins s σ H _ us Q I r ⟨p, ys, rfl, h1, h2⟩
/-- len of a dict -/
def fLenD : List V → Hp → VK → Prop := fun xs H Q => match xs with
  | [.ref p] => ∃ kvs, H p = some (.dK kvs) ∧ Q (.int kvs.length) H
  | _ => False
theorem call_fLenD : CallR X (.builtin "len") fLenD := by
  intro pins s σ H xs us Q I r h
  match xs, r, h with
  | [.ref p], r, h =>
    obtain ⟨kvs, h1, h2⟩ := h
    exact call_lenD pins s σ H _ us Q I r ⟨p, kvs, rfl, h1, h2⟩
def fInt : List V → Hp → VK → Prop := fun xs H Q => match xs with
  | [.int i] => Q (.int i) H
  | [.bl k] => Q (.int (if k then 1 else 0)) H
  | [.str a] => ∃ n, PySem.intText? a = some n ∧ a.length ≤ 640 ∧ Q (.int n) H
  | _ => False
theorem call_fInt : CallR X (.type "int") fInt := by
  intro pins s σ H xs us Q I r h
  match xs, r, h with
  | [.int i], r, h => exact call_int1 pins s σ H _ us Q I r (.inl ⟨i, rfl, h⟩)
  | [.bl k], r, h => exact call_int1 pins s σ H _ us Q I r (.inr ⟨k, rfl, h⟩)
  | [.str a], r, h =>
    obtain ⟨n, h1, h2, h3⟩ := h
    exact call_int_str pins s σ H _ us Q I r ⟨a, n, rfl, h1, h2, h3⟩
def fStr : List V → Hp → VK → Prop := fun xs H Q => match xs with
  | [.int i] => i.natAbs.log2 < 1920 ∧ Q (.str (toString i)) H
  | _ => False
theorem call_fStr : CallR X (.type "str") fStr := by
  intro pins s σ H xs us Q I r h
  match xs, r, h with
  | [.int i], r, h => exact call_str_int pins s σ H _ us Q I r ⟨i, rfl, h⟩
def fAbs : List V → Hp → VK → Prop := fun xs H Q => match xs with
  | [.int i] => Q (.int (if i < 0 then -i else i)) H
  | _ => False
theorem call_fAbs : CallR X (.builtin "abs") fAbs := by
  intro pins s σ H xs us Q I r h
  match xs, r, h with
  | [.int i], r, h => exact call_abs pins s σ H _ us Q I r ⟨i, rfl, h⟩
def fMax : List V → Hp → VK → Prop := fun xs H Q => match xs with
  | [.int i, .int j] => Q (.int (if j > i then j else i)) H
  | _ => False
theorem call_fMax (hc : X.calm = true) : CallR X (.builtin "max") fMax := by
  intro pins s σ H xs us Q I r h
  match xs, r, h with
  | [.int i, .int j], r, h => exact call_max2 hc pins s σ H _ us Q I r ⟨i, j, rfl, h⟩
def fMin : List V → Hp → VK → Prop := fun xs H Q => match xs with
  | [.int i, .int j] => Q (.int (if j < i then j else i)) H
  | _ => False
theorem call_fMin (hc : X.calm = true) : CallR X (.builtin "min") fMin := by
  intro pins s σ H xs us Q I r h
  match xs, r, h with
  | [.int i, .int j], r, h => exact call_min2 hc pins s σ H _ us Q I r ⟨i, j, rfl, h⟩
def fOrd : List V → Hp → VK → Prop := fun xs H Q => match xs with
  | [.str x] => ∃ c, x.cps.toList = [c] ∧ Q (.int (c : Nat)) H
  | _ => False
theorem call_fOrd : CallR X (.builtin "ord") fOrd := by
  intro pins s σ H xs us Q I r h
  match xs, r, h with
  | [.str x], r, h =>
    obtain ⟨c, h1, h2⟩ := h
    cases str_one h1
    exact call_ord pins s σ H _ us Q I r ⟨_, rfl, rfl, h2⟩
def fChr : List V → Hp → VK → Prop := fun xs H Q => match xs with
  | [.int i] => (0 ≤ i ∧ i ≤ 1114111) ∧ Q (.str ⟨#[i.toNat]⟩) H
  | _ => False
theorem call_fChr : CallR X (.builtin "chr") fChr := by
  intro pins s σ H xs us Q I r h
  match xs, r, h with
  | [.int i], r, h => exact call_chr pins s σ H _ us Q I r ⟨i, rfl, h.1.1, h.1.2, h.2⟩
/-- list(x): a new list -/
def fListOf (K : PySem.W.Frag) : List V → Hp → VK → Prop := fun xs H Q => match xs with
  | [.ref p] => ∃ ys, Rl K H p ys ∧ ∀ l H1, H l = none → Same H H1 → H1 l = some (.lst ys) → Q (.ref l) H1
  | _ => False
theorem call_fListOf : CallR X (.type "list") (fListOf X.K) := by
  intro pins s σ H xs us Q I r h
  match xs, r, h with
  | [.ref p], r, h =>
    obtain ⟨ys, h1, h2⟩ := h
    exact call_list_of pins s σ H _ us Q I r ⟨p, ys, rfl, h1, fun l nl => h2 l _ nl (same_new nl) upd_same⟩
/-! ### isinstance of a built-in class -/
/-- a value's built-in class (by the abstract heap), where it is plain -/
def tyOf (H : Hp) : V → Option String
  | .non => some "NoneType"
  | .bl _ => some "bool"
  | .int _ => some "int"
  | .str _ => some "str"
  | .ref a => match H a with
    | some (.lst _) => some "list"
    | some (.tup _) => some "tuple"
    | some (.dK _) => some "dict"
    | some (.dT _) => some "dict"
    | _ => none
  | _ => none
theorem tyX_of {K : PySem.W.Frag} {H : Hp} {x : V} {t : String} (h : tyOf H x = some t) : TyX K H x (.type t) := by
  cases x with
  | non => cases h; exact .base .non
  | bl b => cases h; exact .base (.bl b)
  | int b => cases h; exact .base (.int b)
  | str b => cases h; exact .base (.str b)
  | ref a =>
    dsimp only [tyOf] at h
    split at h <;> first
      | (cases h; exact .base (.lst (by assumption)))
      | (cases h; exact .base (.tup (by assumption)))
      | (cases h; exact .base (.dK (by assumption)))
      | (cases h; exact .base (.dT (by assumption)))
      | cases h
  | _ => cases h
/-- one of some built-in classes -/
def kitBs (t : String) : List V → Option Bool
  | [] => some false
  | .ty n :: cs => match kitB t n, kitBs t cs with
    | some b, some r => some (b || r)
    | _, _ => none
  | _ => none
theorem kitBs_any {K : PySem.W.Frag} {t : String} : ∀ {cs : List V} {r : Bool}, kitBs t cs = some r → ∃ us, Paired ClsV cs us ∧ PySem.W.kitAny K (.type t) us = some r
  | [], r, h => by cases h; exact ⟨[], .nil, kitAny_nil⟩
  | c :: cs, r, h => by
    cases c <;> first
      | cases h
      | (rename_i n
         unfold kitBs at h
         split at h
         · rename_i b r' e e2
           cases h
           obtain ⟨us, p, q⟩ := kitBs_any e2
           refine ⟨_, .cons (.ty n) p, kitAny_cons (kit_ty e) (fun hb => ?_) fun hb => ?_⟩
           · rw [hb]; exact q
           · rw [hb]; rfl
         · cases h)
theorem kitBv : kitB "NoneType" "bool" = some false ∧ kitB "NoneType" "int" = some false ∧ kitB "NoneType" "str" = some false ∧ kitB "NoneType" "list" = some false ∧ kitB "NoneType" "tuple" = some false ∧ kitB "NoneType" "dict" = some false ∧ kitB "bool" "bool" = some true ∧ kitB "bool" "int" = some true ∧ kitB "bool" "str" = some false ∧ kitB "bool" "list" = some false ∧ kitB "bool" "tuple" = some false ∧ kitB "bool" "dict" = some false ∧ kitB "int" "bool" = some false ∧ kitB "int" "int" = some true ∧ kitB "int" "str" = some false ∧ kitB "int" "list" = some false ∧ kitB "int" "tuple" = some false ∧ kitB "int" "dict" = some false ∧ kitB "str" "bool" = some false ∧ kitB "str" "int" = some false ∧ kitB "str" "str" = some true ∧ kitB "str" "list" = some false ∧ kitB "str" "tuple" = some false ∧ kitB "str" "dict" = some false ∧ kitB "list" "bool" = some false ∧ kitB "list" "int" = some false ∧ kitB "list" "str" = some false ∧ kitB "list" "list" = some true ∧ kitB "list" "tuple" = some false ∧ kitB "list" "dict" = some false ∧ kitB "tuple" "bool" = some false ∧ kitB "tuple" "int" = some false ∧ kitB "tuple" "str" = some false ∧ kitB "tuple" "list" = some false ∧ kitB "tuple" "tuple" = some true ∧ kitB "tuple" "dict" = some false ∧ kitB "dict" "bool" = some false ∧ kitB "dict" "int" = some false ∧ kitB "dict" "str" = some false ∧ kitB "dict" "list" = some false ∧ kitB "dict" "tuple" = some false ∧ kitB "dict" "dict" = some true := by decide +kernel
/-- isinstance(x, T), T a built-in class, or a new tuple of such -/
def fIsi : List V → Hp → VK → Prop := fun xs H Q => match xs with
  | [x, .ty n] => ∃ t, tyOf H x = some t ∧ ∃ b, kitB t n = some b ∧ Q (.bl b) H
  | [x, .ref p] => match H p with
    | some (.tup cs) => ∃ t, tyOf H x = some t ∧ ∃ b, kitBs t cs = some b ∧ Q (.bl b) H
    | _ => False
  | _ => False
theorem call_fIsi : CallR X (.builtin "isinstance") fIsi := by
  intro pins s σ H xs us Q I r h
  match xs, r, h with
  | [x, .ty n], r, h =>
    obtain ⟨t, h1, b, h2, h3⟩ := h
    exact call_isi pins s σ H _ us Q I r ⟨x, .ty n, _, _, b, rfl, .ty n, tyX_of h1, kit_ty h2, h3⟩
  | [x, .ref p], r, h =>
    dsimp only [fIsi] at h
    split at h
    · obtain ⟨t, h1, b, h2, h3⟩ := h
      obtain ⟨ws, h4, h5⟩ := kitBs_any h2
      exact call_isiT pins s σ H _ us Q I r ⟨x, p, _, _, ws, b, rfl, by assumption, h4, tyX_of h1, h5, h3⟩
    · exact h.elim
/-! ### methods of built-in types -/
def isLst : V → Hp → Prop := fun x H => match x with
  | .ref p => match H p with
    | some (.lst _) => True
    | _ => False
  | _ => False
theorem isLst_ty {K : PySem.W.Frag} {x : V} {H : Hp} (h : isLst x H) : tyV K "list" x H := by
  unfold isLst at h
  split at h
  · split at h
    · exact .inl ⟨rfl, _, SqL.of (by assumption)⟩
    · exact h.elim
  · exact h.elim
def isDct : V → Hp → Prop := fun x H => match x with
  | .ref p => match H p with
    | some (.dK _) => True
    | _ => False
  | _ => False
theorem isDct_ty {K : PySem.W.Frag} {x : V} {H : Hp} (h : isDct x H) : tyV K "dict" x H := by
  unfold isDct at h
  split at h
  · split at h
    · exact .inr (.inr (.inl ⟨rfl, .inl ⟨_, by assumption⟩⟩))
    · exact h.elim
  · exact h.elim
def isStr : V → Hp → Prop := fun x _ => match x with
  | .str _ => True
  | _ => False
theorem isStr_ty {K : PySem.W.Frag} {x : V} {H : Hp} (h : isStr x H) : tyV K "str" x H := by
  cases x <;> first | exact rfl | exact False.elim h
section
variable {o e : Expr} {es : List Expr} {to te : TE} {t : TA} {apos cpos : Pos} {T id : String} {name : Str} {r : V → List V → Hp → VK → Prop} {ty : V → Hp → Prop}
def fBM0 (ty : V → Hp → Prop) (r : V → List V → Hp → VK → Prop) (to : TE) : TE := fun σ H Q => to σ H fun x H1 => ty x H1 ∧ r x [] H1 Q
def fBM (ty : V → Hp → Prop) (r : V → List V → Hp → VK → Prop) (to : TE) (t : TA) : TE := fun σ H Q => to σ H fun x H1 => ty x H1 ∧ t σ H1 fun xs H2 => r x xs H2 Q
theorem fe_bm0 (pa : PlainAttrs T) (slot : Slot T name id) (hty : typeOf (.builtin id) = pure (.type "method_descriptor")) (hT : ∀ {K : PySem.W.Frag} {x : V} {H : Hp}, ty x H → tyV K T x H) (hm : MtR X id r) (ho : PE X o to)
    (hbase : attributeBase o name X.env (eval o X.env) = eval o X.env := by rfl) (hline : (apos.endLine == cpos.line) = true := by rfl) : PE X (.Call (.Attribute o name apos) [] [] cpos) (fBM0 ty r to) := by
  refine ⟨fun pins s σ H Q I h => ?_⟩
  refine wpAny_Call_method0_late hbase hline (thn (ho.run pins s σ H _ I h) fun v s1 ⟨x, H1, I1, r1, tyx, q1⟩ => ?_)
  obtain ⟨h1, h2⟩ := tyV_is I1 r1 (hT tyx)
  exact ⟨T, id, pa, slot, hty, h1, h2, Calls.callWith_builtin rfl (PySem.evalArgs_none (hm pins s1 σ H1 x [] v [] Q I1 r1 .nil q1))⟩
theorem fe_bm (pa : PlainAttrs T) (slot : Slot T name id) (hty : typeOf (.builtin id) = pure (.type "method_descriptor")) (hT : ∀ {K : PySem.W.Frag} {x : V} {H : Hp}, ty x H → tyV K T x H) (hm : MtR X id r) (ho : PE X o to) (ha : PA X (e :: es) t)
    (hbase : attributeBase o name X.env (eval o X.env) = eval o X.env := by rfl)
    (hfew : ((backTo cpos (starEach (e :: es) X.env)).all (fun x => !x.1) && (backToKw cpos (keywordEach [] X.env)).all (fun x => x.1.isSome)
      && decide ((e :: es).length + ([] : List Keyword).length + (if ([] : List Keyword).isEmpty then 0 else 1) < 30)) = true := by rfl)
    (hline : (apos.endLine == cpos.line) = true := by rfl) (hs : starEach (e :: es) X.env = (false, eval e X.env) :: starEach es X.env := by rfl) (hplain : (backTo cpos (starEach es X.env)).any (·.1) = false := by rfl) :
    PE X (.Call (.Attribute o name apos) (e :: es) [] cpos) (fBM ty r to t) := by
  refine ⟨fun pins s σ H Q I h => ?_⟩
  refine wpAny_Call_method_late hbase hfew hline rfl (thn (ho.run pins s σ H _ I h) fun v s1 ⟨x, H1, I1, r1, tyx, q1⟩ => ?_)
  obtain ⟨h1, h2⟩ := tyV_is I1 r1 (hT tyx)
  refine ⟨T, id, pa, slot, hty, h1, h2, ?_⟩
  have hA := ha.run cpos pins s1 σ H1 _ I1 q1
  rw [hs] at hA ⊢
  refine Calls.callWith_builtin (by show (false || (backTo cpos (starEach es X.env)).any (·.1)) = false; rw [hplain] <;> rfl) (Calls.evalArgs_plain ?_)
  exact thn hA fun us s2 ⟨vs, H2, I2, r2, q2⟩ => hm pins s2 σ H2 x vs v us Q I2 r1 r2 q2
end
def fAppend : V → List V → Hp → VK → Prop := fun x vs H Q => match x, vs with
  | .ref l, [y] => match H l with
    | some (.lst xs) => xs.length < sizeLine ∧ Q .non (upd H l (.lst (xs ++ [y])))
    | _ => False
  | _, _ => False
theorem mt_fAppend : MtR X "list.append" fAppend := by
  intro pins s σ H x xs v us Q I rx rs h
  unfold fAppend at h
  split at h
  · split at h
    · exact mt_append pins s σ H _ _ v us Q I rx rs ⟨_, _, _, rfl, rfl, by assumption, h⟩
    · exact h.elim
  · exact h.elim
/-- a text's method with one text, by its function -/
def fS1 (g : Str → Str → V) : V → List V → Hp → VK → Prop := fun x vs H Q => match x, vs with
  | .str a, [.str b] => Q (g a b) H
  | _, _ => False
theorem mt_fS1 {id : String} {g : Str → Str → V} (h : MtR X id (fun x xs H Q => ∃ a b, x = .str a ∧ xs = [.str b] ∧ Q (g a b) H)) : MtR X id (fS1 g) := by
  intro pins s σ H x xs v us Q I rx rs q
  unfold fS1 at q
  split at q
  · exact h pins s σ H _ _ v us Q I rx rs ⟨_, _, rfl, rfl, q⟩
  · exact q.elim
theorem mt_fCount : MtR X "str.count" (fS1 fun a b => .int (Txt.count a b)) := mt_fS1 mt_count
theorem mt_fFind : MtR X "str.find" (fS1 fun a b => .int (Txt.find a b)) := mt_fS1 mt_find
theorem mt_fRfind : MtR X "str.rfind" (fS1 fun a b => .int (Txt.rfind a b)) := mt_fS1 mt_rfind
theorem mt_fStarts : MtR X "str.startswith" (fS1 fun a b => .bl (Txt.startswith a b)) := mt_fS1 mt_startswith
theorem mt_fEnds : MtR X "str.endswith" (fS1 fun a b => .bl (Txt.endswith a b)) := mt_fS1 mt_endswith

/-! ### statements, loops -/
theorem seq_ {t1 t2 : TS} {D : Ends} {σ : L2.St} {H : Hp} (h : ∀ N : L2.St → Hp → Prop, (∀ σ H, t2 D σ H → N σ H) → t1 { D with nx := N } σ H) : tSeq t1 t2 D σ H := h _ fun _ _ x => x
/-- what follows is a word of its own -/
theorem cut_ {t : TS} {D : Ends} {σ : L2.St} {H : Hp} (h : ∀ N : L2.St → Hp → Prop, (∀ σ H, D.nx σ H → N σ H) → t { D with nx := N } σ H) : t D σ H := h _ fun _ _ x => x
theorem ifs_ {c : TT} {t u : TS} {D : Ends} {σ : L2.St} {H : Hp} (h : c σ H fun b H1 => if b = true then t D σ H1 else u D σ H1) : tIfS c t u D σ H := h
/-- a loop that is at hand -/
def Loop (J : It) (g : TG) (tb : TS) (D : Ends) (σ : L2.St) (H : Hp) : Prop := ∃ W : Nat → Nat → L2.St → Hp → Prop, (∃ m, W 0 m σ H) ∧ ∀ i m σ H, W i m σ H →
  (J.stop i H ∧ D.nx σ H) ∨ (J.go i H ∧ ∃ N : L2.St → Hp → Prop, (∀ σ' H', N σ' H' → ∃ m', m' < m ∧ W (i + 1) m' σ' H') ∧ ∀ x H', J.yld i H x H' → g x σ H' fun σ2 H2 => tb { D with nx := N, ct := N, bk := D.nx } σ2 H2)
theorem for_eq (wi : TI) (g : TG) (tb : TS) (D : Ends) (σ : L2.St) (H : Hp) : tFor wi g tb D σ H = wi σ H fun J H1 => Loop J g tb D σ H1 := rfl
theorem for_ {wi : TI} {g : TG} {tb : TS} {D : Ends} {σ : L2.St} {H : Hp} (h : wi σ H fun J H1 => Loop J g tb D σ H1) : tFor wi g tb D σ H := h
theorem loop_range {lo : Int} {n : Nat} {g : TG} {tb : TS} {D : Ends} {σ : L2.St} {H : Hp} (Pv : Nat → L2.St → Hp → Prop) (h0 : Pv 0 σ H)
    (hs : ∀ i σ H, i < n → Pv i σ H → g (.int (lo + i)) σ H fun σ2 H2 => tb { D with nx := Pv (i + 1), ct := Pv (i + 1), bk := D.nx } σ2 H2) (hd : ∀ σ H, Pv n σ H → D.nx σ H) : Loop (Itr lo n) g tb D σ H := for_range Pv h0 hs hd
theorem loop_list {K : PySem.W.Frag} {a : Addr} {g : TG} {tb : TS} {D : Ends} {σ : L2.St} {H : Hp} (xs : List V) (Pv : Nat → L2.St → Hp → Prop) (h0 : Pv 0 σ H) (hl : ∀ i σ H, i ≤ xs.length → Pv i σ H → SqL K H a xs)
    (hs : ∀ i x σ H, xs[i]? = some x → Pv i σ H → g x σ H fun σ2 H2 => tb { D with nx := Pv (i + 1), ct := Pv (i + 1), bk := D.nx } σ2 H2) (hd : ∀ σ H, Pv xs.length σ H → D.nx σ H) : Loop (Itl K a) g tb D σ H := for_list Pv h0 hl hs hd
theorem loop_tup {K : PySem.W.Frag} {a : Addr} {g : TG} {tb : TS} {D : Ends} {σ : L2.St} {H : Hp} (xs : List V) (Pv : Nat → L2.St → Hp → Prop) (h0 : Pv 0 σ H) (hl : ∀ i σ H, i ≤ xs.length → Pv i σ H → SqT K H a xs)
    (hs : ∀ i x σ H, xs[i]? = some x → Pv i σ H → g x σ H fun σ2 H2 => tb { D with nx := Pv (i + 1), ct := Pv (i + 1), bk := D.nx } σ2 H2) (hd : ∀ σ H, Pv xs.length σ H → D.nx σ H) : Loop (Itt K a) g tb D σ H := for_tup Pv h0 hl hs hd
theorem loop_str {z : Str} {g : TG} {tb : TS} {D : Ends} {σ : L2.St} {H : Hp} (Pv : Nat → L2.St → Hp → Prop) (h0 : Pv 0 σ H)
    (hs : ∀ i c σ H, z.cps.toList[i]? = some c → Pv i σ H → g (.str ⟨#[c]⟩) σ H fun σ2 H2 => tb { D with nx := Pv (i + 1), ct := Pv (i + 1), bk := D.nx } σ2 H2) (hd : ∀ σ H, Pv z.length σ H → D.nx σ H) : Loop (Its z) g tb D σ H :=
  for_it walk_str Pv h0 (fun _ _ _ _ _ => trivial) (fun i x σ H H' hi p y => by
    obtain ⟨rfl, c, hc, rfl⟩ := y
    exact hs i c σ _ (by rw [Array.getElem?_toList]; exact hc) p) hd
end
end Fx

/-! ### defs by name -/
namespace Fx
open PySem PySem.Spec PyProof.Rows L2
/-- the def that stands at the module's name x keeps the promise sp -/
structure Has (P : Program) (w : World) (K : PySem.W.Frag) (mg : Str → Option Value) (base : Heap) (CX : CXT) (x : Str) (k : Nat) (ps : List Str) (sp : Sp) : Prop where
  ex : ∃ (f : Addr) (fd : FuncData), FnOk P w K mg base CX k f fd ps sp ∧ Binds K fd ps [] ∧ mg x = some (.ref f) ∧ PySem.W.keepIn K (.ref f) = true
/-- what the top has written of a def -/
structure FnFact (K : PySem.W.Frag) (x qual : Str) (st : Stmt) : Prop where
  ex : ∃ (f : Addr) (oc : Value) (od an : Option Addr) (sl : Array (Option Value)) (kV dc pm cd ct : Value),
    PySem.W.nsIn K mainGlobals x = some (some (.ref f)) ∧ K.lookup f = some ⟨oc, od, .func (PySem.W.fnOf x qual (defArgs st) (defBody st) (defScope st) .none kV dc pm an cd ct), sl⟩ ∧
    PySem.W.codeIn K cd qual = true ∧ PySem.W.keepIn K (.ref f) = true
theorem FnFact.of {K : PySem.W.Frag} {x qual : Str} {st : Stmt} {f : Addr} {oc : Value} {od an : Option Addr} {sl : Array (Option Value)} {kV dc pm cd ct : Value}
    (a : PySem.W.nsIn K mainGlobals x = some (some (.ref f))) (l : K.lookup f = some ⟨oc, od, .func (PySem.W.fnOf x qual (defArgs st) (defBody st) (defScope st) .none kV dc pm an cd ct), sl⟩)
    (c : PySem.W.codeIn K cd qual = true) (k : PySem.W.keepIn K (.ref f) = true) : FnFact K x qual st := ⟨f, oc, od, an, sl, kV, dc, pm, cd, ct, a, l, c, k⟩
/-- a def as it stands -/
structure At (K : PySem.W.Frag) (mg : Str → Option Value) (x qual : Str) (st : Stmt) (ps : List Str) : Prop where
  ex : ∃ (f : Addr) (fd : FuncData), Fun K x qual st f fd ∧ Binds K fd ps [] ∧ mg x = some (.ref f)
theorem At.of {K : PySem.W.Frag} {mg : Str → Option Value} {x qual : Str} {st : Stmt} {ps : List Str} {h : Heap} (X : K.In h) (G : h.Ns mainGlobals mg) (F : FnFact K x qual st)
    (hb : ∀ (kV doc pm : Value) (an : Option Addr) (cdv ct : Value) (us : List Value), us.length = ps.length → bindArgs (PySem.W.fnOf x qual (defArgs st) (defBody st) (defScope st) .none kV doc pm an cdv ct) ⟨us, []⟩ = pure (ps.zip us)) : At K mg x qual st ps := by
  obtain ⟨f, oc, od, an, sl, kV, dc, pm, cd, ct, a, l, c, k⟩ := F.ex
  have F1 := fun_mk (st := st) l c k
  exact ⟨_, _, F1, F1.binds hb, PySem.W.mg_of X G a⟩
section
variable {P : Program} {w : World} {K : PySem.W.Frag} {mg : Str → Option Value} {base : Heap}
theorem has_of {x qual : Str} {st : Stmt} {N ps : List Str} {k : Nat} {sp : Sp} (A : At K mg x qual st ps) (S : FnScope N ps (defScope st)) (len : ∀ vs H Q E, sp vs H Q E → vs.length = ps.length)
    (hbody : ∀ (cdv : Value) (f : Addr) (A : Around) (outer : List Env) (s : Shared) (H : Hp) (vs : List V) (Q : VK) (E : XK), Room k (A.deeper (envOfC qual (defScope st) s.heap.objs.size f cdv)) → sp vs H Q E →
      ∃ t, PSs (cxOf CX0 P w K mg base N qual (defScope st) f cdv A outer s H E).nox (defBody st) t ∧ t { nx := fun _ H' => Q .non H', rt := Q } (start N vs) H) : Has P w K mg base CX0 x (k + 1) ps sp := by
  obtain ⟨f, fd, F, B, G⟩ := A.ex
  exact ⟨f, fd, F.ok S len fun cdv A outer s H vs Q E hr h => hbody cdv f A outer s H vs Q E hr h, B, G, F.kp⟩
def spNone : Sp := fun _ _ _ _ => False
/-- a def of which nothing is promised -/
theorem At.never {x qual : Str} {st : Stmt} {ps : List Str} (A : At K mg x qual st ps) : Has P w K mg base CX0 x 0 ps spNone := by
  obtain ⟨f, fd, F, B, G⟩ := A.ex
  exact ⟨f, fd, ⟨fun _ _ _ _ h => h.elim, fun _ _ _ _ _ _ _ _ _ _ _ _ _ h => h.elim⟩, B, G, F.kp⟩
theorem Has.mono {CX : CXT} {x : Str} {j k : Nat} {ps : List Str} {sp : Sp} (h : Has P w K mg base CX x j ps sp) (hk : j ≤ k) : Has P w K mg base CX x k ps sp := by
  obtain ⟨f, fd, F, B, G, kp⟩ := h.ex
  exact ⟨f, fd, F.mono hk, B, G, kp⟩
end
section
variable {X : Cx} {CX : CXT} {k : Nat} {x : Str} {p pos : Pos} {e : Expr} {es : List Expr} {t : TA} {ps : List Str} {sp : Sp} {E : XK}
theorem fe_call (h : Has X.prog X.w X.K X.mg X.base CX x k ps sp) (hr : Room k X.A) (hg : Gl X x) (hx : Passes CX X E) (ha : PA X (e :: es) t) (hd : (x == ("__debug__" : Str)) = false := by decide)
    (hs : starEach (e :: es) X.env = (false, eval e X.env) :: starEach es X.env := by rfl) (hplain : (backTo pos (starEach es X.env)).any (·.1) = false := by rfl) : PE X (.Call (.Name x p) (e :: es) [] pos) (tCall sp [] E t) := by
  obtain ⟨f, fd, F, B, G, kp⟩ := h.ex
  exact pe_call F hr hg G kp B .nil hx ha hd hs hplain
theorem fe_call0 (h : Has X.prog X.w X.K X.mg X.base CX x k ps sp) (hr : Room k X.A) (hg : Gl X x) (hx : Passes CX X E) (hd : (x == ("__debug__" : Str)) = false := by decide) : PE X (.Call (.Name x p) [] [] pos) (tCall sp [] E tNil) := by
  obtain ⟨f, fd, F, B, G, kp⟩ := h.ex
  exact pe_call0 F hr hg G kp B .nil hx hd
end
end Fx

namespace Fx
open PySem PySem.Spec PyProof.Rows L2
section
variable {X : Cx}
/-- a built-in class as a value -/
theorem fe_ty {x : Str} {n : String} {pos : Pos} (hg : Gl X x) (hm : X.mg x = none) (hv : bootBuiltins x = some (.type n)) (hn : x ≠ "__name__" := by decide) (hd : (x == ("__debug__" : Str)) = false := by decide) : PE X (.Name x pos) (tC (.ty n)) := pe_bltn hg hm hv rfl hn hd
end
/-! ### texts as lists -/
def S (l : List Nat) : Str := ⟨l.toArray⟩
def L (z : Str) : List Nat := z.cps.toList
theorem S_L (z : Str) : S (L z) = z := by
  obtain ⟨⟨l⟩⟩ := z
  rfl
theorem L_S (l : List Nat) : L (S l) = l := rfl
theorem S_len (l : List Nat) : (S l).length = l.length := by simp [S, Str.length]
theorem L_len (z : Str) : (L z).length = z.length := by simp [L, Str.length]
theorem S_app (a b : List Nat) : S a ++ S b = S (a ++ b) := by
  show (⟨a.toArray ++ b.toArray⟩ : Str) = ⟨(a ++ b).toArray⟩
  simp
theorem S_cps (l : List Nat) : (S l).cps.toList = l := by simp [S]
theorem S_one (c : Nat) : (⟨#[c]⟩ : Str) = S [c] := rfl
theorem S_inj {a b : List Nat} (h : S a = S b) : a = b := by
  have := congrArg L h
  exact this
theorem cut_take (l : List Nat) {o : Int} (h0 : 0 ≤ o) (h1 : o ≤ l.length) : cutS (S l) none (some o) = S (l.take o.toNat) := by
  unfold cutS
  obtain ⟨k, rfl⟩ := Int.eq_ofNat_of_zero_le h0
  have e : HT.sIx (S l).length (S l).length (some (k : Int)) = min k (S l).length := HT.sIx_nat _ _ _
  rw [HT.sIx_none, e, S_len, S_cps]
  have : min k l.length = k := by omega
  rw [this]
  simp [S]
theorem cut_drop (l : List Nat) {o : Int} (h0 : 0 ≤ o) (h1 : o ≤ l.length) : cutS (S l) (some o) none = S (l.drop o.toNat) := by
  unfold cutS
  obtain ⟨k, rfl⟩ := Int.eq_ofNat_of_zero_le h0
  have e : HT.sIx (S l).length 0 (some (k : Int)) = min k (S l).length := HT.sIx_nat _ _ _
  rw [HT.sIx_none, e, S_len, S_cps]
  have : min k l.length = k := by omega
  rw [this]
  have : (l.drop k).take (l.length - k) = l.drop k := List.take_of_length_le (by rw [List.length_drop]; omega)
  simp [S, this]
theorem cut_mid (l : List Nat) {a b : Int} (h0 : 0 ≤ a) (h1 : a ≤ b) (h2 : b ≤ l.length) : cutS (S l) (some a) (some b) = S ((l.drop a.toNat).take (b.toNat - a.toNat)) := by
  unfold cutS
  obtain ⟨k, rfl⟩ := Int.eq_ofNat_of_zero_le h0
  obtain ⟨m, rfl⟩ := Int.eq_ofNat_of_zero_le (Int.le_trans h0 h1)
  have e1 : HT.sIx (S l).length 0 (some (k : Int)) = min k (S l).length := HT.sIx_nat _ _ _
  have e2 : HT.sIx (S l).length (S l).length (some (m : Int)) = min m (S l).length := HT.sIx_nat _ _ _
  rw [e1, e2, S_len, S_cps]
  have q1 : min k l.length = k := by omega
  have q2 : min m l.length = m := by omega
  rw [q1, q2]
  rfl
theorem len_line {n : Nat} (h : n ≤ 100000) : n ≤ sizeLine := Nat.le_trans h (by decide)
theorem len_line' {n : Nat} (h : n < 100000) : n < sizeLine := Nat.lt_of_lt_of_le h (by decide)
theorem small_div {i j : Int} (h : 0 < j) (h2 : j < 1073741824) : CDivW i j := wide_div (b := 30) h (by omega) (by decide) (by decide)
theorem mul_left {i j : Int} (h : -(2 ^ 64) < i) (h2 : i < 2 ^ 64) : IntMulOk i j := CMul.ok (.inl ⟨h, h2⟩)
theorem mul_right {i j : Int} (h : -(2 ^ 64) < j) (h2 : j < 2 ^ 64) : IntMulOk i j := CMul.ok (.inr ⟨h, h2⟩)
theorem same_mut {H H' : Hp} {p : Addr} {o : HO} (s : Same H H') (h : H p = none) : Same H (upd H' p o) := fun b x e => by
  rw [upd_ne (ne_of_none e h)]
  exact s b x e
theorem ex2 {α β : Type} {a : α} {b : β} {P : α → β → Prop} : (∃ i j, (a = i ∧ b = j) ∧ P i j) ↔ P a b := ⟨fun ⟨_, _, ⟨e1, e2⟩, h⟩ => e1 ▸ e2 ▸ h, fun h => ⟨a, b, ⟨rfl, rfl⟩, h⟩⟩
theorem at_ints {ns : List Int} {i : Int} (h0 : 0 ≤ i) (h1 : i < ns.length) : ∃ z, atI (ns.map V.int) i = some (.int z) := by
  obtain ⟨k, rfl⟩ := Int.eq_ofNat_of_zero_le h0
  have hk : k < ns.length := by omega
  exact ⟨ns[k], atI_nat (by rw [List.getElem?_map, List.getElem?_eq_getElem hk]; rfl)⟩
theorem at_strs {ns : List Str} {i : Int} (h0 : 0 ≤ i) (h1 : i < ns.length) : ∃ z, z ∈ ns ∧ atI (ns.map V.str) i = some (.str z) := by
  obtain ⟨k, rfl⟩ := Int.eq_ofNat_of_zero_le h0
  have hk : k < ns.length := by omega
  exact ⟨ns[k], List.getElem_mem hk, atI_nat (by rw [List.getElem?_map, List.getElem?_eq_getElem hk]; rfl)⟩
theorem getD_eq {α : Type} {ns : List α} {i : Nat} (d : α) (h : i < ns.length) : ns.getD i d = ns[i] := by
  simp [List.getD, List.getElem?_eq_getElem h]
theorem at_getD {ns : List Str} {i : Int} (d : Str) (h0 : 0 ≤ i) (h1 : i < ns.length) : atI (ns.map V.str) i = some (.str (ns.getD i.toNat d)) := by
  obtain ⟨k, rfl⟩ := Int.eq_ofNat_of_zero_le h0
  have hk : k < ns.length := by omega
  refine atI_nat ?_
  rw [List.getElem?_map, List.getElem?_eq_getElem hk, Int.toNat_natCast, getD_eq _ hk]
  rfl
theorem at_getN {ns : List Nat} {i : Int} (d : Nat) (h0 : 0 ≤ i) (h1 : i < ns.length) : atI ns i = some (ns.getD i.toNat d) := by
  obtain ⟨k, rfl⟩ := Int.eq_ofNat_of_zero_le h0
  have hk : k < ns.length := by omega
  refine atI_nat ?_
  rw [List.getElem?_eq_getElem hk, Int.toNat_natCast, getD_eq _ hk]
theorem getD_mem {α : Type} {ns : List α} {i : Nat} (d : α) (h : i < ns.length) : ns.getD i d ∈ ns := by
  rw [getD_eq _ h]
  exact List.getElem_mem h
theorem at_ints_mem {ns : List Int} {i : Int} (h0 : 0 ≤ i) (h1 : i < ns.length) : ∃ z, z ∈ ns ∧ atI (ns.map V.int) i = some (.int z) := by
  obtain ⟨k, rfl⟩ := Int.eq_ofNat_of_zero_le h0
  have hk : k < ns.length := by omega
  exact ⟨ns[k], List.getElem_mem hk, atI_nat (by rw [List.getElem?_map, List.getElem?_eq_getElem hk]; rfl)⟩
theorem emod_lo (r : Int) {m : Int} (h : 0 < m) : 0 ≤ r % m := Int.emod_nonneg _ (by omega)
theorem emod_hi (r : Int) {m : Int} (h : 0 < m) : r % m < m := Int.emod_lt_of_pos _ h
theorem at_vs {xs : List V} {i : Int} (h0 : 0 ≤ i) (h1 : i < xs.length) : ∃ z, z ∈ xs ∧ atI xs i = some z := by
  obtain ⟨k, rfl⟩ := Int.eq_ofNat_of_zero_le h0
  have hk : k < xs.length := by omega
  exact ⟨xs[k], List.getElem_mem hk, atI_nat (List.getElem?_eq_getElem hk)⟩
end Fx

/-! ### constants of the module, more of texts -/
namespace Fx
open PySem PySem.Spec PyProof.Rows L2
theorem one_list (c : Nat) : (⟨#[c]⟩ : Str).cps.toList = [c] := rfl
theorem absV_rel {u : Value} {x : V} (h : absV u = some x) : RelV x u := by
  cases u <;> first
    | (cases h; rfl)
    | (cases h; exact ⟨_, rfl⟩)
    | cases h
def absVs : List Value → Option (List V)
  | [] => some []
  | u :: us => match absV u, absVs us with
    | some x, some xs => some (x :: xs)
    | _, _ => none
theorem absVs_rel : ∀ {us : List Value} {xs : List V}, absVs us = some xs → Vals xs us
  | [], xs, h => by cases h; exact .nil
  | u :: us, xs, h => by
    unfold absVs at h
    split at h
    · rename_i x ys h1 h2
      cases h
      exact .cons (absV_rel h1) (absVs_rel h2)
    · cases h
/-- a tuple of the module -/
structure TupFact (K : PySem.W.Frag) (x : Str) (xs : List V) : Prop where
  ex : ∃ (a : Addr) (od : Option Addr) (its : Array Value) (n : Nat) (sl : Array (Option Value)), PySem.W.nsIn K mainGlobals x = some (some (.ref a)) ∧ K.lookup a = some ⟨.type "tuple", od, .seq its n, sl⟩ ∧ absVs its.toList = some xs ∧ its.size ≤ 1000
theorem TupFact.of {K : PySem.W.Frag} {x : Str} {xs : List V} {a : Addr} {od : Option Addr} {its : Array Value} {n : Nat} {sl : Array (Option Value)} (h1 : PySem.W.nsIn K mainGlobals x = some (some (.ref a))) (h2 : K.lookup a = some ⟨.type "tuple", od, .seq its n, sl⟩)
    (h3 : absVs its.toList = some xs) (h4 : its.size ≤ 1000) : TupFact K x xs := ⟨a, od, its, n, sl, h1, h2, h3, h4⟩
theorem gstr_of {K : PySem.W.Frag} {x z : Str} {t : Tok} (h : PySem.W.nsIn K mainGlobals x = some (some (.str z t))) : ∃ t, PySem.W.nsIn K mainGlobals x = some (some (.str z t)) := ⟨t, h⟩
theorem gint_of {K : PySem.W.Frag} {x : Str} {z : Int} {t : Tok} (h : PySem.W.nsIn K mainGlobals x = some (some (.int z t))) : ∃ t, PySem.W.nsIn K mainGlobals x = some (some (.int z t)) := ⟨t, h⟩
def GTup (K : PySem.W.Frag) (mg : Str → Option Value) (x : Str) (xs : List V) : Prop := ∃ a, mg x = some (.ref a) ∧ ∀ H, SqT K H a xs
theorem TupFact.get {K : PySem.W.Frag} {mg : Str → Option Value} {x : Str} {xs : List V} {h : Heap} (X : K.In h) (G : h.Ns mainGlobals mg) (F : TupFact K x xs) : GTup K mg x xs := by
  obtain ⟨a, od, its, n, sl, h1, h2, h3, h4⟩ := F.ex
  exact ⟨a, PySem.W.mg_of X G h1, fun H => .inr ⟨_, its, n, h2, rfl, rfl, Nat.le_trans h4 (by decide), absVs_rel h3⟩⟩
def fGt_ (K : PySem.W.Frag) (xs : List V) : TE := fun _ H Q => ∀ a, (∀ H', SqT K H' a xs) → Q (.ref a) H
section
variable {X : Cx} {x : Str} {pos : Pos}
theorem fe_gstr {z : Str} (hg : Gl X x) (h : ∃ t, X.mg x = some (.str z t)) (hd : (x == ("__debug__" : Str)) = false := by decide) : PE X (.Name x pos) (tC (.str z)) := by
  obtain ⟨t, h⟩ := h
  exact pe_glob hg h ⟨t, rfl⟩ hd
theorem fe_gint {z : Int} (hg : Gl X x) (h : ∃ t, X.mg x = some (.int z t)) (hd : (x == ("__debug__" : Str)) = false := by decide) : PE X (.Name x pos) (tC (.int z)) := by
  obtain ⟨t, h⟩ := h
  exact pe_glob hg h ⟨t, rfl⟩ hd
theorem fe_gtup {xs : List V} (hg : Gl X x) (h : GTup X.K X.mg x xs) (hd : (x == ("__debug__" : Str)) = false := by decide) : PE X (.Name x pos) (fGt_ X.K xs) := by
  obtain ⟨a, h, hs⟩ := h
  exact pe_wk (pe_glob hg h (v := .ref a) rfl hd) fun σ H Q q => q a hs
/-- ''.join(list or tuple of texts) -/
def fJoin (K : PySem.W.Frag) : V → List V → Hp → VK → Prop := fun x vs H Q => match x, vs with
  | .str a, [.ref p] => ∃ ys : List Str, Rl K H p (ys.map V.str) ∧ (ys.map (·.length)).sum + ys.length * a.length ≤ 16777216 ∧ Q (.str (Txt.join a ys)) H
  | _, _ => False
theorem mt_fJoin : MtR X "str.join" (fJoin X.K) := by
  intro pins s σ H x xs v us Q I rx rs q
  unfold fJoin at q
  split at q
  · obtain ⟨ys, h1, h2, h3⟩ := q
    exact mt_join pins s σ H _ _ v us Q I rx rs ⟨_, _, ys, rfl, rfl, h1, h2, h3⟩
  · exact q.elim
def fLstripC : V → List V → Hp → VK → Prop := fun x vs H Q => match x, vs with
  | .str a, [.str b] => a.length ≤ sizeLine ∧ Q (.str (Txt.lstripChars a b)) H
  | _, _ => False
theorem mt_fLstripC : MtR X "str.lstrip" fLstripC := by
  intro pins s σ H x xs v us Q I rx rs q
  unfold fLstripC at q
  split at q
  · exact mt_lstripChars pins s σ H _ _ v us Q I rx rs ⟨_, _, rfl, rfl, q⟩
  · exact q.elim
end
theorem join_ones : ∀ cs : List Nat, Txt.join (S []) (cs.map fun c => S [c]) = S cs := by
  intro cs
  show (⟨_⟩ : Str) = ⟨_⟩
  congr 1
  cases cs with
  | nil => rfl
  | cons c r =>
    have go : ∀ (r : List Nat) (acc : List Nat), ((r.map fun c => S [c]).foldl (fun (acc : Array Nat) (p : Str) => acc ++ (S []).cps ++ p.cps) acc.toArray) = (acc ++ r).toArray := by
      intro r
      induction r with
      | nil => intro acc; simp
      | cons d r ih =>
        intro acc
        rw [List.map_cons, List.foldl_cons]
        have e : acc.toArray ++ (S []).cps ++ (S [d]).cps = (acc ++ [d]).toArray := by simp [S]
        rw [e, ih, List.append_assoc]
        rfl
    have := go r [c]
    simpa [S] using this
theorem drop_tw (p : Nat → Bool) : ∀ l : List Nat, l.drop (l.takeWhile p).length = l.dropWhile p
  | [] => rfl
  | c :: r => by
    rw [List.takeWhile_cons, List.dropWhile_cons]
    by_cases h : p c = true
    · rw [if_pos h, if_pos h, List.length_cons, List.drop_succ_cons, drop_tw p r]
    · rw [if_neg h, if_neg h, List.length_nil, List.drop_zero]
theorem lstrip_zero (l : List Nat) (b : Nat) : Txt.lstripChars (S l) (S [b]) = S (l.dropWhile (· == b)) := by
  have hp : ((S [b]).cps.contains : Nat → Bool) = (· == b) := by
    funext c
    simp only [S, List.contains_toArray, List.contains_cons, List.contains_nil, Bool.or_false]
  unfold Txt.lstripChars
  rw [hp]
  have ht : (stripLo (· == b) true (S l)) = (l.takeWhile (· == b)).length := rfl
  unfold Txt.stripBy
  split
  · rename_i h
    unfold stripSame at h
    have h0 : stripLo (· == b) true (S l) = 0 := by
      have := (Bool.and_eq_true_iff.mp h).1
      exact eq_of_beq this
    rw [ht] at h0
    rw [← drop_tw, h0, List.drop_zero]
  · unfold stripped
    rw [ht]
    have e : stripHi (· == b) false (S l) (l.takeWhile (· == b)).length = (S l).length := rfl
    rw [e, ← drop_tw]
    have := StrLaws.strSub_toList (S l) (l.takeWhile (· == b)).length (S l).length
    rw [← S_L (Builtin.Str.strSub _ _ _)]
    congr 1
    show (Builtin.Str.strSub _ _ _).cps.toList = _
    rw [this, S_cps, S_len]
    exact List.take_of_length_le (by rw [List.length_drop]; exact Nat.le_refl _)
end Fx

set_option Elab.async false
set_option linter.all false
set_option maxRecDepth 100000
/-! Ox: objects of the program's own classes, over Fx. -/
namespace Fx
open PySem PySem.Spec PyProof.Rows L2
/-! ### weakening within -/
section
variable {X : Cx}
/-- whatever follows may be weaker -/
def clos (t : TE) : TE := fun σ H Q => ∃ Q0 : VK, t σ H Q0 ∧ ∀ v H1, Q0 v H1 → Q v H1
def closA (t : TA) : TA := fun σ H Q => ∃ Q0, t σ H Q0 ∧ ∀ v H1, Q0 v H1 → Q v H1
theorem pe_clos {e : Expr} {t : TE} (h : PE X e t) : PE X e (clos t) := ⟨fun pins s σ H Q I ⟨Q0, h0, w⟩ => wpAny_mono (h.run pins s σ H Q0 I h0) (fun u s' ⟨v, H', I', r, q⟩ => ⟨v, H', I', r, w v H' q⟩) fun _ _ x => x⟩
theorem pa_clos {es : List Expr} {t : TA} (h : PA X es t) : PA X es (closA t) := ⟨fun pos pins s σ H Q I ⟨Q0, h0, w⟩ => wpAny_mono (h.run pos pins s σ H Q0 I h0) (fun u s' ⟨v, H', I', r, q⟩ => ⟨v, H', I', r, w v H' q⟩) fun _ _ x => x⟩
end
/-! ### heaps but for some places -/
def Keep (ps : List Addr) (H H' : Hp) : Prop := ∀ a o, a ∉ ps → H a = some o → H' a = some o
theorem Keep.refl {ps : List Addr} {H : Hp} : Keep ps H H := fun _ _ _ h => h
theorem Keep.trans {ps : List Addr} {H H1 H2 : Hp} (h : Keep ps H H1) (k : Keep ps H1 H2) : Keep ps H H2 := fun a o n e => k a o n (h a o n e)
theorem Keep.of {ps : List Addr} {H H' : Hp} (s : Same H H') : Keep ps H H' := fun a o _ e => s a o e
theorem Keep.mono {ps qs : List Addr} {H H' : Hp} (h : Keep ps H H') (m : ∀ a ∈ ps, a ∈ qs) : Keep qs H H' := fun a o n e => h a o (fun z => n (m a z)) e
theorem Keep.same {H H' : Hp} (h : Keep [] H H') : Same H H' := fun a o e => h a o (by simp) e
theorem Keep.upd {ps : List Addr} {H H' : Hp} {p : Addr} {o : HO} (h : Keep ps H H') (m : p ∈ ps) : Keep ps H (L2.upd H' p o) := fun a x n e => by
  rw [upd_ne (fun q => n (by rw [q]; exact m))]
  exact h a x n e
theorem Keep.updN {ps : List Addr} {H H' : Hp} {p : Addr} {o : HO} (h : Keep ps H H') (m : H p = none) : Keep ps H (L2.upd H' p o) := fun a x n e => by
  rw [upd_ne (ne_of_none e m)]
  exact h a x n e
/-- what the caller does not know -/
theorem Keep.drop {p : Addr} {ps : List Addr} {H H' : Hp} (h : Keep (p :: ps) H H') (m : H p = none) : Keep ps H H' := fun a x n e => h a x (by
  intro q
  rcases List.mem_cons.mp q with rfl | q
  · rw [m] at e; cases e
  · exact n q) e
/-- the new object's heap, when only it has been changed since -/
theorem mk_same {H H0 : Hp} {y : Addr} {o : HO} (s : Same H H0) (n : H y = none) : Same H (L2.upd H0 y o) := same_mut s n
theorem mk_same2 {H H0 : Hp} {y : Addr} {o o' : HO} (s : Same H H0) (n : H y = none) : Same H (L2.upd (L2.upd H0 y o) y o') := same_mut (same_mut s n) n
theorem upd2 {H : Hp} {y : Addr} {o o' : HO} : L2.upd (L2.upd H y o) y o' = L2.upd H y o' := by
  funext a
  by_cases h : a = y
  · subst h; rw [upd_same, upd_same]
  · rw [upd_ne h, upd_ne h, upd_ne h]
theorem SqL.keep {K : PySem.W.Frag} {ps : List Addr} {H H' : Hp} {a : Addr} {xs : List V} (k : Keep ps H H') (n : a ∉ ps) (h : SqL K H a xs) : SqL K H' a xs :=
  h.elim (fun h => .inl (h.elim (fun h => .inl (k _ _ n h)) fun ⟨o, h⟩ => .inr ⟨o, k _ _ n h⟩)) fun h => .inr h
/-! ### fields -/
def fFld (cs : List Addr) (f : Str) (ta : TE) : TE := fun σ H Q => ta σ H fun x H1 => match x with
  | .ref a => match H1 a with
    | some (.ins C _ fs) => C ∈ cs ∧ match fs.lookup f with
      | some v => Q v H1
      | none => False
    | _ => False
  | _ => False
def fSetF (cs : List Addr) (f : Str) (ta tv : TE) : TS := fun D σ H => tv σ H fun y H1 => ta σ H1 fun x H2 => match x with
  | .ref a => match H2 a with
    | some (.ins C dx fs) => C ∈ cs ∧ fs.length < 1000 ∧ D.nx σ (upd H2 a (.ins C dx (putF f y fs)))
    | _ => False
  | _ => False
/-- the classes that know an attribute only by their instances -/
def Plain (K : PySem.W.Frag) (cs : List Addr) (f : Str) : Prop := ∀ C ∈ cs, Cls K C ∧ NoAttr K C f
section
variable {X : Cx} {o e value : Expr} {f : Str} {pos pos' : Pos} {ta tv : TE} {cs : List Addr}
theorem fe_fld (he : PE X e ta) (hc : Plain X.K cs f) (hb : attributeBase e f X.env (eval e X.env) = eval e X.env) : PE X (.Attribute e f pos) (fFld cs f ta) := by
  refine pe_wk (pe_fld (pe_clos he) hb) fun σ H Q q => ⟨_, q, fun x H1 q => ?_⟩
  split at q
  · split at q
    · obtain ⟨m, q⟩ := q
      split at q
      · exact ⟨_, _, _, _, _, rfl, by assumption, (hc _ m).1, (hc _ m).2, by assumption, q⟩
      · exact q.elim
    · exact q.elim
  · exact q.elim
theorem fs_fld (ha : PE X o ta) (hv : PE X value tv) (hc : Plain X.K cs f) (hs : swapsWith value (some (.Attribute o f pos')) pos.line X.env = pure false) : PS X (.Assign [.Attribute o f pos'] value pos) (fSetF cs f ta tv) := by
  refine ps_wk (ps_fld (pe_clos ha) (pe_clos hv) hs) fun D σ H q => ⟨_, q, fun y H1 q => ⟨_, q, fun x H2 q => ?_⟩⟩
  split at q
  · split at q
    · exact ⟨_, _, _, _, rfl, by assumption, (hc _ q.1).1, (hc _ q.1).2, q.2.1, q.2.2⟩
    · exact q.elim
  · exact q.elim
end
/-- {} -/
def fDnew : TE := fun _ H Q => ∀ p H2, H p = none → Same H H2 → H2 p = some (.dK []) → Q (.ref p) H2
theorem fe_dnew {X : Cx} {pos : Pos} : PE X (.Dict [] [] pos) fDnew := pe_wk pe_dnewK fun σ H Q q => fun p np => q p _ np (same_new np) upd_same
theorem rl_keep {K : PySem.W.Frag} {H H' : Hp} {a : Addr} {xs : List V} (s : Same H H') (h : Rl K H a xs) : Rl K H' a xs := h.elim (fun h => .inl (s.seq h)) fun h => .inr (SqT.ext h s)
/-! ### methods, making -/
/-- a method as it stands in its class -/
structure AtM (K : PySem.W.Frag) (C : Addr) (x qual : Str) (st : Stmt) (ps : List Str) : Prop where
  ex : ∃ (f : Addr) (fd : FuncData), Fun K x qual st f fd ∧ Binds K fd ps [] ∧ Meth K C x f
structure MFact (K : PySem.W.Frag) (C : Addr) (x qual : Str) (st : Stmt) : Prop where
  ex : ∃ (f : Addr) (oc : Value) (od an : Option Addr) (sl : Array (Option Value)) (kV dc pm cd ct : Value),
    PySem.W.findIn K (.ref C) x = some (some (.ref f)) ∧ K.lookup f = some ⟨oc, od, .func (PySem.W.fnOf x qual (defArgs st) (defBody st) (defScope st) .none kV dc pm an cd ct), sl⟩ ∧
    PySem.W.codeIn K cd qual = true ∧ PySem.W.keepIn K (.ref f) = true ∧ PySem.W.isFn K (.ref f) = true
theorem MFact.of {K : PySem.W.Frag} {C : Addr} {x qual : Str} {st : Stmt} {f : Addr} {oc : Value} {od an : Option Addr} {sl : Array (Option Value)} {kV dc pm cd ct : Value}
    (a : PySem.W.findIn K (.ref C) x = some (some (.ref f))) (l : K.lookup f = some ⟨oc, od, .func (PySem.W.fnOf x qual (defArgs st) (defBody st) (defScope st) .none kV dc pm an cd ct), sl⟩)
    (c : PySem.W.codeIn K cd qual = true) (k : PySem.W.keepIn K (.ref f) = true) (i : PySem.W.isFn K (.ref f) = true) : MFact K C x qual st := ⟨f, oc, od, an, sl, kV, dc, pm, cd, ct, a, l, c, k, i⟩
theorem AtM.of {K : PySem.W.Frag} {C : Addr} {x qual : Str} {st : Stmt} {ps : List Str} (F : MFact K C x qual st)
    (hb : ∀ (kV doc pm : Value) (an : Option Addr) (cdv ct : Value) (us : List Value), us.length = ps.length → bindArgs (PySem.W.fnOf x qual (defArgs st) (defBody st) (defScope st) .none kV doc pm an cdv ct) ⟨us, []⟩ = pure (ps.zip us)) : AtM K C x qual st ps := by
  obtain ⟨f, oc, od, an, sl, kV, dc, pm, cd, ct, a, l, c, k, i⟩ := F.ex
  have F1 := fun_mk (st := st) l c k
  exact ⟨_, _, F1, F1.binds hb, ⟨a, i, k⟩⟩
/-- a method that keeps a promise (of the object and the arguments) -/
structure HasM (P : Program) (w : World) (K : PySem.W.Frag) (mg : Str → Option Value) (base : Heap) (CX : CXT) (C : Addr) (x : Str) (k : Nat) (ps : List Str) (sp : Sp) : Prop where
  ex : ∃ (f : Addr) (fd : FuncData), FnOk P w K mg base CX k f fd ps sp ∧ Binds K fd ps [] ∧ Meth K C x f
/-- a class whose making keeps a promise (of the arguments) -/
structure HasC (P : Program) (w : World) (K : PySem.W.Frag) (mg : Str → Option Value) (base : Heap) (CX : CXT) (C : Addr) (x : Str) (k : Nat) (ps : List Str) (sp : Sp) : Prop where
  ex : ∃ (f : Addr) (fd : FuncData) (sp' : Sp), FnOk P w K mg base CX k f fd ps sp' ∧ Binds K fd ps [] ∧ Mk K C f ∧ mg x = some (.ref C) ∧
    ∀ vs H Q E, sp vs H Q E → ∀ y dx H0, H y = none → Same H H0 → H0 y = some (.ins C dx []) → sp' (.ref y :: vs) H0 (fun v H2 => v = .non ∧ Q (.ref y) H2) E
section
variable {P : Program} {w : World} {K : PySem.W.Frag} {mg : Str → Option Value} {base : Heap}
theorem hasM_of {C : Addr} {x qual : Str} {st : Stmt} {N ps : List Str} {k : Nat} {sp : Sp} (A : AtM K C x qual st ps) (S : FnScope N ps (defScope st)) (len : ∀ vs H Q E, sp vs H Q E → vs.length = ps.length)
    (hbody : ∀ (cdv : Value) (f : Addr) (A : Around) (outer : List Env) (s : Shared) (H : Hp) (vs : List V) (Q : VK) (E : XK), Room k (A.deeper (envOfC qual (defScope st) s.heap.objs.size f cdv)) → sp vs H Q E →
      ∃ t, PSs (cxOf CX0 P w K mg base N qual (defScope st) f cdv A outer s H E).nox (defBody st) t ∧ t { nx := fun _ H' => Q .non H', rt := Q } (start N vs) H) : HasM P w K mg base CX0 C x (k + 1) ps sp := by
  obtain ⟨f, fd, F, B, G⟩ := A.ex
  exact ⟨f, fd, F.ok S len fun cdv A outer s H vs Q E hr h => hbody cdv f A outer s H vs Q E hr h, B, G⟩
/-- what a class is for making -/
structure MkAt (K : PySem.W.Frag) (mg : Str → Option Value) (x : Str) (C : Addr) : Prop where
  makes : PySem.W.makesIn K C = true
  kp : PySem.W.keepIn K (.ref C) = true
  at_ : mg x = some (.ref C)
theorem hasC_of {C : Addr} {x qual : Str} {st : Stmt} {N ps : List Str} {k : Nat} {sp : Sp} (M : MkAt K mg x C) (A : AtM K C "__init__" qual st ps) (S : FnScope N ps (defScope st)) (len : ∀ vs H Q E, sp vs H Q E → vs.length + 1 = ps.length)
    (hbody : ∀ (cdv : Value) (f : Addr) (A : Around) (outer : List Env) (s : Shared) (H : Hp) (vs : List V) (Q : VK) (E : XK) (y dx : Addr) (H0 : Hp), Room k (A.deeper (envOfC qual (defScope st) s.heap.objs.size f cdv)) → sp vs H Q E → H y = none → Same H H0 → H0 y = some (.ins C dx []) →
      ∃ t, PSs (cxOf CX0 P w K mg base N qual (defScope st) f cdv A outer s H0 E).nox (defBody st) t ∧ t { nx := fun _ H' => Q (.ref y) H', rt := fun v H' => v = .non ∧ Q (.ref y) H' } (start N (.ref y :: vs)) H0) : HasC P w K mg base CX0 C x (k + 1) ps sp := by
  obtain ⟨f, fd, F, B, G⟩ := A.ex
  refine ⟨f, fd, fun ws H0 Q' E => ∃ y vs H Q dx, ws = .ref y :: vs ∧ sp vs H Q E ∧ H y = none ∧ Same H H0 ∧ H0 y = some (.ins C dx []) ∧ Q' = fun v H2 => v = .non ∧ Q (.ref y) H2, ?_, B, ⟨M.makes, G.at_, G.fn, M.kp⟩, M.at_, ?_⟩
  · refine F.ok S (fun ws H0 Q' E h => ?_) fun cdv A outer s H0 ws Q' E hr h => ?_
    · obtain ⟨y, vs, H, Q, dx, rfl, h, _⟩ := h
      exact len vs H Q E h
    · obtain ⟨y, vs, H, Q, dx, rfl, h, hy, hs, h0, rfl⟩ := h
      obtain ⟨t, h1, h2⟩ := hbody cdv f A outer s H vs Q E y dx H0 hr h hy hs h0
      refine ⟨t, h1, ?_⟩
      have e : (fun (_ : L2.St) (H' : Hp) => (fun v H2 => v = V.non ∧ Q (.ref y) H2) V.non H') = fun _ H' => Q (.ref y) H' := by
        funext _ H'
        exact propext ⟨fun h => h.2, fun h => ⟨rfl, h⟩⟩
      rw [e]
      exact h2
  · intro vs H Q E h y dx H0 hy hs h0
    exact ⟨y, vs, H, Q, dx, rfl, h, hy, hs, h0, rfl⟩
end
section
variable {X : Cx} {CX : CXT} {k : Nat} {C : Addr} {x m : Str} {p pos apos : Pos} {o e : Expr} {es : List Expr} {t : TA} {ta : TE} {ps : List Str} {sp : Sp} {E : XK}
theorem fe_make (h : HasC X.prog X.w X.K X.mg X.base CX C x k ps sp) (hr : Room (k + 1) X.A) (hg : Gl X x) (hx : Passes CX X E) (ha : PA X (e :: es) t) (hd : (x == ("__debug__" : Str)) = false := by decide)
    (hs : starEach (e :: es) X.env = (false, eval e X.env) :: starEach es X.env := by rfl) (hplain : (backTo pos (starEach es X.env)).any (·.1) = false := by rfl) : PE X (.Call (.Name x p) (e :: es) [] pos) (tCall sp [] E t) := by
  obtain ⟨f, fd, sp', F, B, M, G, h⟩ := h.ex
  refine pe_wk (pe_make M F hr hg G B .nil hx (pa_clos ha) hd hs hplain) fun σ H Q q => ⟨_, q, fun vs H1 q y dx n1 n2 n3 => ?_⟩
  rw [List.append_nil] at q ⊢
  refine h vs H1 Q E q y dx _ n1 (fun b z ez => ?_) upd_same
  rw [upd_ne (ne_of_none ez n1), upd_ne (ne_of_none ez n2)]
  exact ez
theorem fe_make0 (h : HasC X.prog X.w X.K X.mg X.base CX C x k ps sp) (hr : Room (k + 1) X.A) (hg : Gl X x) (hx : Passes CX X E) (hd : (x == ("__debug__" : Str)) = false := by decide) : PE X (.Call (.Name x p) [] [] pos) (tCall sp [] E tNil) := by
  obtain ⟨f, fd, sp', F, B, M, G, h⟩ := h.ex
  refine pe_wk (pe_make0 M F hr hg G B .nil hx hd) fun σ H Q q => ?_
  show tNil σ H _
  intro y dx n1 n2 n3
  refine h [] H Q E q y dx _ n1 (fun b z ez => ?_) upd_same
  rw [upd_ne (ne_of_none ez n1), upd_ne (ne_of_none ez n2)]
  exact ez
/-- an instance of the class, without an attribute of the name -/
def isOb (C : Addr) (m : Str) : V → Hp → Prop := fun x H => match x with
  | .ref a => match H a with
    | some (.ins D _ fs) => D = C ∧ fs.lookup m = none
    | _ => False
  | _ => False
def fMeth (C : Addr) (m : Str) (sp : Sp) (E : XK) (ta : TE) (t : TA) : TE := fun σ H Q => ta σ H fun x H1 => isOb C m x H1 ∧ t σ H1 fun vs H2 => sp (x :: vs) H2 Q E
theorem fMeth_to {σ : L2.St} {H : Hp} {Q : VK} (q : fMeth C m sp E ta t σ H Q) : tMeth C m sp [] E (clos ta) t σ H Q := by
  refine ⟨_, q, fun x H1 ⟨q1, q2⟩ => ?_⟩
  unfold isOb at q1
  split at q1
  · split at q1
    · obtain ⟨rfl, q1⟩ := q1
      refine ⟨_, _, _, rfl, by assumption, q1, ?_⟩
      simp only [List.append_nil]
      exact q2
    · exact q1.elim
  · exact q1.elim
theorem fe_meth {pl : Sem Bool} (h : HasM X.prog X.w X.K X.mg X.base CX C m k ps sp) (c : Cls X.K C) (hr : Room k X.A) (hx : Passes CX X E) (he : PE X o ta) (ha : PA X (e :: es) t)
    (hst : starEach (e :: es) X.env = (false, eval e X.env) :: starEach es X.env := by rfl) (hpl : (backTo pos (starEach es X.env)).any (·.1) = false := by rfl)
    (ht : eval (.Call (.Attribute o m apos) (e :: es) [] pos) X.env = (do
      let ov ← eval o X.env
      standAt apos.atName
      let (f, first) ← holding [ov] (getMethod ov m pl)
      callWith pos f first (backTo pos (starEach (e :: es) X.env)) (backToKw pos (keywordEach [] X.env))) := by rfl) :
    PE X (.Call (.Attribute o m apos) (e :: es) [] pos) (fMeth C m sp E ta t) := by
  obtain ⟨f, fd, F, B, M⟩ := h.ex
  exact pe_wk (pe_meth (pe_clos he) c M F hr B .nil hx ha hst hpl ht) fun σ H Q q => fMeth_to q
theorem fe_meth0 {pl : Sem Bool} (h : HasM X.prog X.w X.K X.mg X.base CX C m k ps sp) (c : Cls X.K C) (hr : Room k X.A) (hx : Passes CX X E) (he : PE X o ta)
    (ht : eval (.Call (.Attribute o m apos) [] [] pos) X.env = (do
      let ov ← eval o X.env
      standAt apos.atName
      let (f, first) ← holding [ov] (getMethod ov m pl)
      callWith pos f first (backTo pos (starEach [] X.env)) (backToKw pos (keywordEach [] X.env))) := by rfl) :
    PE X (.Call (.Attribute o m apos) [] [] pos) (fMeth C m sp E ta tNil) := by
  obtain ⟨f, fd, F, B, M⟩ := h.ex
  exact pe_wk (pe_meth0 (pe_clos he) c M F hr B .nil hx ht) fun σ H Q q => fMeth_to q
end
/-! ### isinstance of own classes -/
/-- what isinstance asks of a class of the program -/
structure OCls (K : PySem.W.Frag) (C : Addr) : Prop where
  cl : Cls K C
  ci : PySem.W.findIn K (.ref C) "__class__" = some (some (.builtin "object.__class__"))
  gd : PySem.W.specialIn K (.builtin "object.__class__") "__get__" = some (some (.builtin "getset_descriptor.__get__"))
  tk : PySem.W.takesIn K (.builtin "object.__class__") = some true
  mr : PySem.W.mroIn K C (.type "object") = some true
/-- the answers of isinstance for instances of cs and plain values, at the classes ds -/
structure Kit (K : PySem.W.Frag) (cs ds : List Addr) : Prop where
  ow : ∀ C ∈ cs, OCls K C
  oo : ∀ C ∈ cs, ∀ D ∈ ds, PySem.W.kitOne K (.ref C) (.ref D) = some (decide (C = D))
  bo : ∀ n ∈ ["NoneType", "bool", "int", "str", "list", "tuple", "dict"], ∀ D ∈ ds, PySem.W.kitOne K (.type n) (.ref D) = some false
  ob : ∀ C ∈ cs, ∀ n ∈ ["bool", "int", "str", "list", "tuple", "dict"], PySem.W.kitOne K (.ref C) (.type n) = some false
/-- a value's class -/
def tyV2 (H : Hp) : V → Option Value
  | .ref a => match H a with
    | some (.ins C _ _) => some (.ref C)
    | some (.lst _) => some (.type "list")
    | some (.tup _) => some (.type "tuple")
    | some (.dK _) => some (.type "dict")
    | some (.dT _) => some (.type "dict")
    | _ => none
  | .non => some (.type "NoneType")
  | .bl _ => some (.type "bool")
  | .int _ => some (.type "int")
  | .str _ => some (.type "str")
  | _ => none
def okT (cs : List Addr) : Value → Prop
  | .ref C => C ∈ cs
  | _ => True
def kit2 (D : Addr) : Value → Bool
  | .ref C => decide (C = D)
  | _ => false
theorem ty2_kit {K : PySem.W.Frag} {cs ds : List Addr} (k : Kit K cs ds) {H : Hp} {x : V} {t : Value} (h : tyV2 H x = some t) (ok : okT cs t) : TyX K H x t ∧ ∀ D ∈ ds, PySem.W.kitOne K t (.ref D) = some (kit2 D t) := by
  unfold tyV2 at h
  split at h <;> first
    | (cases h; exact ⟨.base .non, fun D hD => k.bo "NoneType" (by decide) D hD⟩)
    | (cases h; exact ⟨.base (.bl _), fun D hD => k.bo "bool" (by decide) D hD⟩)
    | (cases h; exact ⟨.base (.int _), fun D hD => k.bo "int" (by decide) D hD⟩)
    | (cases h; exact ⟨.base (.str _), fun D hD => k.bo "str" (by decide) D hD⟩)
    | (split at h <;> first
        | (cases h; exact ⟨.base (.lst (by assumption)), fun D hD => k.bo "list" (by decide) D hD⟩)
        | (cases h; exact ⟨.base (.tup (by assumption)), fun D hD => k.bo "tuple" (by decide) D hD⟩)
        | (cases h; exact ⟨.base (.dK (by assumption)), fun D hD => k.bo "dict" (by decide) D hD⟩)
        | (cases h; exact ⟨.base (.dT (by assumption)), fun D hD => k.bo "dict" (by decide) D hD⟩)
        | (cases h
           have O := k.ow _ ok
           exact ⟨.base (.ins (by assumption) O.cl O.ci O.gd O.tk O.mr), fun D hD => k.oo _ ok D hD⟩)
        | cases h)
    | cases h
/-- isinstance(x, C), C an own class -/
def fIsiO (cs ds : List Addr) : List V → Hp → VK → Prop := fun xs H Q => match xs with
  | [x, .ref D] => ∃ t, tyV2 H x = some t ∧ okT cs t ∧ D ∈ ds ∧ Q (.bl (kit2 D t)) H
  | _ => False
theorem call_fIsiO {X : Cx} {cs ds : List Addr} (k : Kit X.K cs ds) : CallR X (.builtin "isinstance") (fIsiO cs ds) := by
  intro pins s σ H xs us Q I r h
  match xs, r, h with
  | [x, .ref D], r, h =>
    obtain ⟨t, h1, h2, h3, h4⟩ := h
    obtain ⟨g1, g2⟩ := ty2_kit k h1 h2
    exact call_isi pins s σ H _ us Q I r ⟨x, .ref D, _, _, _, rfl, .own D, g1, g2 D h3, h4⟩
/-- isinstance(x, (C, D, ..)), own classes, the tuple just made -/
def kits2 (t : Value) : List V → Bool
  | .ref D :: r => kit2 D t || kits2 t r
  | _ => false
def allIn (ds : List Addr) : List V → Prop
  | [] => True
  | .ref D :: r => D ∈ ds ∧ allIn ds r
  | _ :: _ => False
theorem kits2_any {K : PySem.W.Frag} {ds : List Addr} {t : Value} (k : ∀ D ∈ ds, PySem.W.kitOne K t (.ref D) = some (kit2 D t)) : ∀ {vs : List V}, allIn ds vs → ∃ us, Paired ClsV vs us ∧ PySem.W.kitAny K t us = some (kits2 t vs)
  | [], _ => ⟨[], .nil, kitAny_nil⟩
  | v :: r, ha => by
    cases v <;> first
      | exact ha.elim
      | (rename_i D
         obtain ⟨us, p, q⟩ := kits2_any k ha.2
         refine ⟨_, .cons (.own D) p, kitAny_cons (k D ha.1) (fun hb => ?_) (fun hb => ?_)⟩
         · rw [q, kits2, hb]; rfl
         · rw [kits2, hb]; rfl)
def fIsiP (cs ds : List Addr) : List V → Hp → VK → Prop := fun xs H Q => match xs with
  | [x, .ref p] => match H p with
    | some (.tup vs) => ∃ t, tyV2 H x = some t ∧ okT cs t ∧ allIn ds vs ∧ Q (.bl (kits2 t vs)) H
    | _ => False
  | _ => False
theorem call_fIsiP {X : Cx} {cs ds : List Addr} (k : Kit X.K cs ds) : CallR X (.builtin "isinstance") (fIsiP cs ds) := by
  intro pins s σ H xs us Q I r h
  match xs, r, h with
  | [x, .ref p], r, h =>
    dsimp only [fIsiP] at h
    split at h
    · obtain ⟨t, h1, h2, h3, h4⟩ := h
      obtain ⟨g1, g2⟩ := ty2_kit k h1 h2
      obtain ⟨ws, g3, g4⟩ := kits2_any g2 h3
      exact call_isiT pins s σ H _ us Q I r ⟨x, p, _, _, ws, _, rfl, by assumption, g3, g1, g4, h4⟩
    · exact h.elim
/-- isinstance(x, T), T a built-in class, x an instance too -/
def fIsiA (cs : List Addr) : List V → Hp → VK → Prop := fun xs H Q => match xs with
  | [x, .ty n] => ∃ t, tyV2 H x = some t ∧ match t with
    | .ref C => C ∈ cs ∧ n ∈ ["bool", "int", "str", "list", "tuple", "dict"] ∧ Q (.bl false) H
    | .type s => ∃ b, kitB s n = some b ∧ Q (.bl b) H
    | _ => False
  | _ => False
theorem call_fIsiA {X : Cx} {cs ds : List Addr} (k : Kit X.K cs ds) : CallR X (.builtin "isinstance") (fIsiA cs) := by
  intro pins s σ H xs us Q I r h
  match xs, r, h with
  | [x, .ty n], r, h =>
    obtain ⟨t, h1, h2⟩ := h
    match t, h1, h2 with
    | .ref C, h1, h2 =>
      obtain ⟨g1, _⟩ := ty2_kit k h1 (show okT cs (.ref C) from h2.1)
      exact call_isi pins s σ H _ us Q I r ⟨x, .ty n, _, _, _, rfl, .ty n, g1, k.ob C h2.1 n h2.2.1, h2.2.2⟩
    | .type s', h1, h2 =>
      obtain ⟨b, h3, h4⟩ := h2
      obtain ⟨g1, _⟩ := ty2_kit k h1 (show okT cs (.type s') from trivial)
      exact call_isi pins s σ H _ us Q I r ⟨x, .ty n, _, _, _, rfl, .ty n, g1, kit_ty h3, h4⟩
/-- x is True, x is False; x is not .. -/
def fIsB (neg : Bool) : R2 := fun x y H Q => match y with
  | .bl b => (match x with | .non => Q (.bl neg) H | .bl c => Q (.bl (if neg = true then !decide (c = b) else decide (c = b))) H | .int _ => Q (.bl neg) H | .str _ => Q (.bl neg) H | .ref _ => Q (.bl neg) H | _ => False)
  | _ => False
theorem same_bool {M : Model} {A : Around} {E : Value → Shared → Prop} {s : Shared} {x : V} {u : Value} {b : Bool} {R : Bool → Shared → Prop} (r : RelV x u)
    (h : match x with | .non => R false s | .bl c => R (decide (c = b)) s | .int _ => R false s | .str _ => R false s | .ref _ => R false s | _ => False) : wpAny M A (isSame u (.bool b)) R E s := by
  cases x <;> first
    | exact h.elim
    | (cases r
       refine wpAny_isSame_plain rfl ?_
       exact h)
    | (obtain ⟨t, rfl⟩ := r
       refine wpAny_isSame_plain rfl ?_
       exact h)
    | (cases r
       rename_i c
       refine wpAny_isSame_plain rfl ?_
       have e : (Value.bool c == Value.bool b) = decide (c = b) := by cases c <;> cases b <;> rfl
       rw [e]
       exact h)
theorem op_fIsB {X : Cx} : OpR X (compareOp .Is) (fIsB false) := by
  intro pins s σ H x y v u Q I rx ry h
  cases y <;> first
    | exact False.elim h
    | (cases ry
       show wpAny _ _ ((isSame v (Value.bool _)) >>= fun z => pure (Value.bool z)) _ _ s
       refine wpAny_bind (same_bool rx ?_)
       cases x <;> first
         | exact False.elim h
         | exact wpAny_pure (fin_bl I h rfl))
theorem op_fNotB {X : Cx} : OpR X (compareOp .IsNot) (fIsB true) := by
  intro pins s σ H x y v u Q I rx ry h
  cases y <;> first
    | exact False.elim h
    | (cases ry
       show wpAny _ _ ((isSame v (Value.bool _)) >>= fun z => pure (Value.bool (!z))) _ _ s
       refine wpAny_bind (same_bool rx ?_)
       cases x <;> first
         | exact False.elim h
         | exact wpAny_pure (fin_bl I h rfl))
/-- one of two ways -/
def fOr (r1 r2 : R2) : R2 := fun x y H Q => r1 x y H Q ∨ r2 x y H Q
theorem op_fOr {X : Cx} {f : Value → Value → Sem Value} {r1 r2 : R2} (h1 : OpR X f r1) (h2 : OpR X f r2) : OpR X f (fOr r1 r2) := fun pins s σ H x y v u Q I rx ry q => q.elim (h1 pins s σ H x y v u Q I rx ry) (h2 pins s σ H x y v u Q I rx ry)
theorem all_nil {α : Type} {P : α → Prop} : ∀ x ∈ ([] : List α), P x := fun _ h => by cases h
theorem all_cons {α : Type} {P : α → Prop} {a : α} {l : List α} (h : P a) (t : ∀ x ∈ l, P x) : ∀ x ∈ a :: l, P x := fun x m => by
  rcases List.mem_cons.mp m with rfl | m
  · exact h
  · exact t x m
/-! ### == by an own __eq__ -/
def fEqO (C : Addr) (sp : Sp) (E : XK) : R2 := fun x y H Q => match x, y with
  | .ref a, .ref b => (match H a with | some (.ins D _ _) => D = C | _ => False) ∧ (match H b with | some (.ins D _ _) => D = C | _ => False) ∧ sp [x, y] H (fun v H' => match v with | .bl _ => Q v H' | _ => False) E
  | _, _ => False
theorem op_fEqO {X : Cx} {CX : CXT} {C : Addr} {n : Nat} {ps : List Str} {sp : Sp} {E : XK} (h : HasM X.prog X.w X.K X.mg X.base CX C "__eq__" n ps sp) (hr : Room n X.A) (hx : Passes CX X E) : OpR X (compareOp .Eq) (fEqO C sp E) := by
  intro pins s σ H x y v u Q I rx ry q
  obtain ⟨f, fd, F, B, M⟩ := h.ex
  cases x <;> cases y <;> first
    | exact False.elim q
    | skip
  rename_i a b
  dsimp only [fEqO] at q
  obtain ⟨qa, qb, q⟩ := q
  split at qa
  · rename_i D1 dx1 fs1 ea
    split at qb
    · rename_i D2 dx2 fs2 eb
      subst qa
      subst qb
      cases rx
      cases ry
      obtain ⟨mA, J, _⟩ := ins_get I.hok ea
      obtain ⟨mB, J', _⟩ := ins_get I.hok eb
      obtain ⟨od, J, _⟩ := J.look
      obtain ⟨od', J', _⟩ := J'.look
      obtain ⟨m, hF⟩ := I.fr
      show wpAny (model X.prog X.w) X.A (richCompare .Eq (.ref a) (.ref b)) (EP X pins σ Q) X.xe s
      refine PySem.W.cmp_K (op := .Eq) (tb := .ref D2) hr.units0 hF I.ok.mod.kin J J'.type (by simp [PySem.W.notFirst]) M.at_ M.fn ?_
      refine wpAny_mono (run_fn (vs := [.ref a, .ref b]) F hr B .nil hx I (.cons rfl (.cons rfl .nil)) q) (fun w s' z => ?_) fun _ _ x => x
      obtain ⟨y, H', I', r, z⟩ := z
      cases y <;> first
        | exact z.elim
        | (cases r; exact ⟨.bl _, H', I', rfl, z⟩)
    · exact qb.elim
  · exact qa.elim
/-! ### what the top has written of a class -/
structure ClsFact (K : PySem.W.Frag) (C : Addr) : Prop where
  pg : PySem.W.plainGet K C Str.empty = true
  hd : PySem.W.hasDictIn K C = true
  po : PySem.W.plainOver K C = true
  sa : PySem.W.findIn K (.ref C) "__setattr__" = some (some (.builtin "object.__setattr__"))
  ci : PySem.W.findIn K (.ref C) "__class__" = some (some (.builtin "object.__class__"))
  mr : PySem.W.mroIn K C (.type "object") = some true
  mks : PySem.W.makesIn K C = true
  kp : PySem.W.keepIn K (.ref C) = true
theorem ClsFact.cls {K : PySem.W.Frag} {C : Addr} (x : ClsFact K C) : Cls K C := ⟨x.pg, x.hd, x.po, x.sa⟩
/-- what every class has of object -/
structure ObjFact (K : PySem.W.Frag) : Prop where
  gd : PySem.W.specialIn K (.builtin "object.__class__") "__get__" = some (some (.builtin "getset_descriptor.__get__"))
  tk : PySem.W.takesIn K (.builtin "object.__class__") = some true
theorem ClsFact.ocls {K : PySem.W.Frag} {C : Addr} (x : ClsFact K C) (o : ObjFact K) : OCls K C := ⟨x.cls, x.ci, o.gd, o.tk, x.mr⟩
/-! ### comprehensions -/
def Lc (J : It) (g : TG) (tt : TT) (te : TE) (vs : List Nat) (σ : L2.St) (H1 : Hp) (D : Addr) (Q : VK) : Prop := ∃ W : Nat → Nat → Hp → Prop, (∃ m, W 0 m (upd H1 D (.lst []))) ∧ ∀ i m H, W i m H →
  (J.stop i H ∧ Q (.ref D) H) ∨ (J.go i H ∧ ∃ Nx : Hp → Prop, (∀ H', Nx H' → ∃ m', m' < m ∧ W (i + 1) m' H') ∧ ∀ x H', J.yld i H x H' → g x (wipe σ vs) H' fun σ2 H2 => wipe σ2 vs = wipe σ vs ∧ tt σ2 H2 fun b H3 =>
    if b = true then te σ2 H3 fun y H4 => ∃ acc, H4 D = some (.lst acc) ∧ acc.length < sizeLine ∧ Nx (upd H4 D (.lst (acc ++ [y]))) else Nx H3)
theorem lc_ {wi : TI} {g : TG} {tt : TT} {te : TE} {vs : List Nat} {σ : L2.St} {H : Hp} {Q : VK} (h : wi σ H fun J H1 => ∀ D, H1 D = none → Lc J g tt te vs σ H1 D Q) : tLc wi g tt te vs σ H Q := h
theorem lcx_range {lo : Int} {n : Nat} {g : TG} {tt : TT} {te : TE} {vs : List Nat} {σ : L2.St} {H1 : Hp} {D : Addr} {Q : VK} (Pv : Nat → Hp → Prop) (h0 : Pv 0 (upd H1 D (.lst [])))
    (hs : ∀ i H, i < n → Pv i H → g (.int (lo + i)) (wipe σ vs) H fun σ2 H2 => wipe σ2 vs = wipe σ vs ∧ tt σ2 H2 fun b H3 =>
      if b = true then te σ2 H3 fun y H4 => ∃ acc, H4 D = some (.lst acc) ∧ acc.length < sizeLine ∧ Pv (i + 1) (upd H4 D (.lst (acc ++ [y]))) else Pv (i + 1) H3) (hd : ∀ H, Pv n H → Q (.ref D) H) : Lc (Itr lo n) g tt te vs σ H1 D Q :=
  lc_it walk_range Pv h0 (fun _ _ _ _ => trivial) (fun i x H H' hi p y => by
    obtain ⟨rfl, rfl⟩ := y
    exact hs i _ hi p) hd
theorem lcx_list {K : PySem.W.Frag} {a : Addr} {xs : List V} {g : TG} {tt : TT} {te : TE} {vs : List Nat} {σ : L2.St} {H1 : Hp} {D : Addr} {Q : VK} (Pv : Nat → Hp → Prop) (h0 : Pv 0 (upd H1 D (.lst []))) (hl : ∀ i H, i ≤ xs.length → Pv i H → SqL K H a xs)
    (hs : ∀ i x H, xs[i]? = some x → Pv i H → g x (wipe σ vs) H fun σ2 H2 => wipe σ2 vs = wipe σ vs ∧ tt σ2 H2 fun b H3 =>
      if b = true then te σ2 H3 fun y H4 => ∃ acc, H4 D = some (.lst acc) ∧ acc.length < sizeLine ∧ Pv (i + 1) (upd H4 D (.lst (acc ++ [y]))) else Pv (i + 1) H3) (hd : ∀ H, Pv xs.length H → Q (.ref D) H) : Lc (Itl K a) g tt te vs σ H1 D Q :=
  lc_it walk_list Pv h0 hl (fun i x H H' hi p y => by
    obtain ⟨rfl, e⟩ := y
    exact hs i x _ e p) hd
end Fx

set_option Elab.async false
set_option linter.all false
set_option maxRecDepth 100000
/-! Ex: exceptions of the program's own classes, over Ox. -/
namespace Fx
open PySem PySem.Spec PyProof.Rows L2
/-! ### defs that may raise -/
/-- what leaves a def, as its promise says -/
abbrev wOf (E : XK) : WX := fun cls d _ H => E cls d H
section
variable {P : Program} {w : World} {K : PySem.W.Frag} {mg : Str → Option Value} {base : Heap}
theorem tk_of {N : List Str} {qual : Str} {sc : Scope} {f : Addr} {cd : Value} {A : Around} {outer : List Env} {s : Shared} {H : Hp} {E : XK} : Takes (cxOf (L2.CX P w) P w K mg base N qual sc f cd A outer s H E) (wOf E) := takes_of rfl rfl rfl rfl
theorem hasX_of {x qual : Str} {st : Stmt} {N ps : List Str} {k : Nat} {sp : Sp} (A : At K mg x qual st ps) (S : FnScope N ps (defScope st)) (len : ∀ vs H Q E, sp vs H Q E → vs.length = ps.length)
    (hbody : ∀ (cdv : Value) (f : Addr) (A : Around) (outer : List Env) (s : Shared) (H : Hp) (vs : List V) (Q : VK) (E : XK), Room k (A.deeper (envOfC qual (defScope st) s.heap.objs.size f cdv)) → sp vs H Q E →
      ∃ t, PSs (cxOf (L2.CX P w) P w K mg base N qual (defScope st) f cdv A outer s H E) (defBody st) t ∧ t { nx := fun _ H' => Q .non H', rt := Q } (start N vs) H) : Has P w K mg base (L2.CX P w) x (k + 1) ps sp := by
  obtain ⟨f, fd, F, B, G⟩ := A.ex
  exact ⟨f, fd, F.okX S len fun cdv A outer s H vs Q E hr h => hbody cdv f A outer s H vs Q E hr h, B, G, F.kp⟩
theorem hasMX_of {C : Addr} {x qual : Str} {st : Stmt} {N ps : List Str} {k : Nat} {sp : Sp} (A : AtM K C x qual st ps) (S : FnScope N ps (defScope st)) (len : ∀ vs H Q E, sp vs H Q E → vs.length = ps.length)
    (hbody : ∀ (cdv : Value) (f : Addr) (A : Around) (outer : List Env) (s : Shared) (H : Hp) (vs : List V) (Q : VK) (E : XK), Room k (A.deeper (envOfC qual (defScope st) s.heap.objs.size f cdv)) → sp vs H Q E →
      ∃ t, PSs (cxOf (L2.CX P w) P w K mg base N qual (defScope st) f cdv A outer s H E) (defBody st) t ∧ t { nx := fun _ H' => Q .non H', rt := Q } (start N vs) H) : HasM P w K mg base (L2.CX P w) C x (k + 1) ps sp := by
  obtain ⟨f, fd, F, B, G⟩ := A.ex
  exact ⟨f, fd, F.okX S len fun cdv A outer s H vs Q E hr h => hbody cdv f A outer s H vs Q E hr h, B, G⟩
end
section
variable {X : Cx} {CX : CXT} {k : Nat} {C : Addr} {x m : Str} {p pos apos : Pos} {o e : Expr} {es : List Expr} {t : TA} {ta : TE} {ps : List Str} {sp : Sp} {W : WX}
theorem fe_callX (h : Has X.prog X.w X.K X.mg X.base (L2.CX X.prog X.w) x k ps sp) (hr : Room k X.A) (hg : Gl X x) (tk : Takes X W) (ha : PA X (e :: es) t) (hd : (x == ("__debug__" : Str)) = false := by decide)
    (hs : starEach (e :: es) X.env = (false, eval e X.env) :: starEach es X.env := by rfl) (hplain : (backTo pos (starEach es X.env)).any (·.1) = false := by rfl) : PE X (.Call (.Name x p) (e :: es) [] pos) (tCallS sp (WE W) t) := by
  obtain ⟨f, fd, F, B, G, kp⟩ := h.ex
  exact pe_callS F hr hg G kp B (fun σ => passAt tk σ) ha hd hs hplain
theorem fe_callX0 (h : Has X.prog X.w X.K X.mg X.base (L2.CX X.prog X.w) x k ps sp) (hr : Room k X.A) (hg : Gl X x) (tk : Takes X W) (hd : (x == ("__debug__" : Str)) = false := by decide) : PE X (.Call (.Name x p) [] [] pos) (tCallS sp (WE W) tNil) := by
  obtain ⟨f, fd, F, B, G, kp⟩ := h.ex
  refine ⟨fun pins s σ H Q I h => ?_⟩
  refine wpAny_Call_Name_kw (ld_glob I hg G ?_ hd)
  exact PySem.W.callWith_K0 I.kIn kp (run_fnS (us := []) F hr B (passAt tk σ) I .nil h)
theorem isOb_some {a : Addr} {H : Hp} (h : isOb C m (.ref a) H) : ∃ dx fs, H a = some (.ins C dx fs) ∧ fs.lookup m = none := by
  unfold isOb at h
  dsimp only at h
  split at h
  · obtain ⟨rfl, l⟩ := h
    exact ⟨_, _, by assumption, l⟩
  · exact h.elim
def fMethS (C : Addr) (m : Str) (sp : Sp) (E : L2.St → XK) (ta : TE) (t : TA) : TE := fun σ H Q => ta σ H fun x H1 => isOb C m x H1 ∧ t σ H1 fun vs H2 => sp (x :: vs) H2 Q (E σ)
theorem fe_methX {pl : Sem Bool} (h : HasM X.prog X.w X.K X.mg X.base (L2.CX X.prog X.w) C m k ps sp) (c : Cls X.K C) (hr : Room k X.A) (tk : Takes X W) (he : PE X o ta) (ha : PA X (e :: es) t)
    (hst : starEach (e :: es) X.env = (false, eval e X.env) :: starEach es X.env := by rfl) (hpl : (backTo pos (starEach es X.env)).any (·.1) = false := by rfl)
    (ht : eval (.Call (.Attribute o m apos) (e :: es) [] pos) X.env = (do
      let ov ← eval o X.env
      standAt apos.atName
      let (f, first) ← holding [ov] (getMethod ov m pl)
      callWith pos f first (backTo pos (starEach (e :: es) X.env)) (backToKw pos (keywordEach [] X.env))) := by rfl) :
    PE X (.Call (.Attribute o m apos) (e :: es) [] pos) (fMethS C m sp (WE W) ta t) := by
  obtain ⟨f, fd, F, B, M⟩ := h.ex
  refine ⟨fun pins s σ H Q I h => ?_⟩
  refine PySem.W.methodCall_KW (pl := pl) (thn (he.run pins s σ H _ I h) fun u s1 ⟨x, H1, I1, rx, q1, q2⟩ => ?_) ht
  match x, q1, rx, q2 with
  | .ref a, q1, rx, q2 =>
    obtain ⟨dx, fs, ea, l⟩ := isOb_some q1
    · obtain rfl : u = Value.ref a := rx
      refine getmeth_ok I1 ea c M l ?_
      refine PySem.W.callWith_K (first := [.ref a]) (h₀ := X.base) I.ok.mod.kin M.kp (thn (ha.run pos pins s1 σ H1 _ I1 q2) fun us s2 ⟨vs, H2, I2, r, q3⟩ => ⟨I2.kIn, ?_⟩) hst hpl
      exact run_fnS (us := .ref a :: us) (vs := .ref a :: vs) F hr B (passAt tk σ) I2 (.cons rfl r) q3
theorem fe_methX0 {pl : Sem Bool} (h : HasM X.prog X.w X.K X.mg X.base (L2.CX X.prog X.w) C m k ps sp) (c : Cls X.K C) (hr : Room k X.A) (tk : Takes X W) (he : PE X o ta)
    (ht : eval (.Call (.Attribute o m apos) [] [] pos) X.env = (do
      let ov ← eval o X.env
      standAt apos.atName
      let (f, first) ← holding [ov] (getMethod ov m pl)
      callWith pos f first (backTo pos (starEach [] X.env)) (backToKw pos (keywordEach [] X.env))) := by rfl) :
    PE X (.Call (.Attribute o m apos) [] [] pos) (fMethS C m sp (WE W) ta tNil) := by
  obtain ⟨f, fd, F, B, M⟩ := h.ex
  refine ⟨fun pins s σ H Q I h => ?_⟩
  refine PySem.W.methodCall_KW (pl := pl) (thn (he.run pins s σ H _ I h) fun u s1 ⟨x, H1, I1, rx, q1, q2⟩ => ?_) ht
  match x, q1, rx, q2 with
  | .ref a, q1, rx, q2 =>
    obtain ⟨dx, fs, ea, l⟩ := isOb_some q1
    · obtain rfl : u = Value.ref a := rx
      refine getmeth_ok I1 ea c M l ?_
      exact PySem.W.callWith_K0 (first := [.ref a]) I1.kIn M.kp (run_fnS (us := [.ref a]) (vs := [.ref a]) F hr B (passAt tk σ) I1 (.cons rfl .nil) q2)
end
/-! ### exception classes -/
structure ExcFact (K : PySem.W.Frag) (C : Addr) : Prop where
  cls : ∃ nm q N bs bm sn sub ab col dd k0 k1 k2 k3 k5, K.lookup C = some (excClassObj nm q C N bs bm true sn sub ab col dd k0 k1 k2 k3 k5 "ValueError.__new__") ∧ PySem.HandSPX.refsVE bm = true
  sa : PySem.W.findIn K (.ref C) "__setattr__" = some (some (.builtin "object.__setattr__"))
  ga : PySem.W.findIn K (.ref C) "__getattribute__" = some (some (.builtin "BaseException.__getattribute__"))
  gg : PySem.W.findIn K (.ref C) "__getattr__" = some none
  exC : PySem.W.subIn K (.ref C) (.type "BaseException") = some true
  tyC : PySem.W.typeIn K (.ref C) = some (.type "type")
  kC : PySem.W.keepIn K (.ref C) = true
  hdC : PySem.W.hasDictIn K C = true
  ci : PySem.W.findIn K (.ref C) "__class__" = some (some (.builtin "object.__class__"))
  mr : PySem.W.mroIn K C (.type "object") = some true
theorem ExcFact.of {K : PySem.W.Frag} {C : Addr} {nm q N bs bm sn sub ab col dd k0 k1 k2 k3 k5} (l : K.lookup C = some (excClassObj nm q C N bs bm true sn sub ab col dd k0 k1 k2 k3 k5 "ValueError.__new__")) (r : PySem.HandSPX.refsVE bm = true)
    (sa : PySem.W.findIn K (.ref C) "__setattr__" = some (some (.builtin "object.__setattr__"))) (ga : PySem.W.findIn K (.ref C) "__getattribute__" = some (some (.builtin "BaseException.__getattribute__"))) (gg : PySem.W.findIn K (.ref C) "__getattr__" = some none)
    (exC : PySem.W.subIn K (.ref C) (.type "BaseException") = some true) (tyC : PySem.W.typeIn K (.ref C) = some (.type "type")) (kC : PySem.W.keepIn K (.ref C) = true) (hdC : PySem.W.hasDictIn K C = true)
    (ci : PySem.W.findIn K (.ref C) "__class__" = some (some (.builtin "object.__class__"))) (mr : PySem.W.mroIn K C (.type "object") = some true) : ExcFact K C :=
  ⟨⟨nm, q, N, bs, bm, sn, sub, ab, col, dd, k0, k1, k2, k3, k5, l, r⟩, sa, ga, gg, exC, tyC, kC, hdC, ci, mr⟩
theorem ExcFact.oex {K : PySem.W.Frag} {C : Addr} (F : ExcFact K C) : OexC K C := ⟨F.cls, F.sa, F.exC, F.tyC, F.kC⟩
theorem ExcFact.xf {K : PySem.W.Frag} {C : Addr} (F : ExcFact K C) : XfC K C := ⟨F.ga, F.gg, F.exC, F.hdC⟩
/-- __init__ of an exception class as it stands -/
structure AtE (K : PySem.W.Frag) (C : Addr) (qual : Str) (st : Stmt) (ps : List Str) : Prop where
  ex : ∃ (f : Addr) (fd : FuncData), Fun K "__init__" qual st f fd ∧ Binds K fd ps [] ∧ PySem.W.findIn K (.ref C) "__init__" = some (some (.ref f)) ∧ PySem.W.typeIn K (.ref f) = some (.type "function")
structure EFact (K : PySem.W.Frag) (C : Addr) (qual : Str) (st : Stmt) : Prop where
  ex : ∃ (f : Addr) (oc : Value) (od an : Option Addr) (sl : Array (Option Value)) (kV dc pm cd ct : Value),
    PySem.W.findIn K (.ref C) "__init__" = some (some (.ref f)) ∧ K.lookup f = some ⟨oc, od, .func (PySem.W.fnOf "__init__" qual (defArgs st) (defBody st) (defScope st) .none kV dc pm an cd ct), sl⟩ ∧
    PySem.W.codeIn K cd qual = true ∧ PySem.W.keepIn K (.ref f) = true ∧ PySem.W.typeIn K (.ref f) = some (.type "function")
theorem EFact.of {K : PySem.W.Frag} {C : Addr} {qual : Str} {st : Stmt} {f : Addr} {oc : Value} {od an : Option Addr} {sl : Array (Option Value)} {kV dc pm cd ct : Value}
    (a : PySem.W.findIn K (.ref C) "__init__" = some (some (.ref f))) (l : K.lookup f = some ⟨oc, od, .func (PySem.W.fnOf "__init__" qual (defArgs st) (defBody st) (defScope st) .none kV dc pm an cd ct), sl⟩)
    (c : PySem.W.codeIn K cd qual = true) (k : PySem.W.keepIn K (.ref f) = true) (i : PySem.W.typeIn K (.ref f) = some (.type "function")) : EFact K C qual st := ⟨f, oc, od, an, sl, kV, dc, pm, cd, ct, a, l, c, k, i⟩
theorem AtE.of {K : PySem.W.Frag} {C : Addr} {qual : Str} {st : Stmt} {ps : List Str} (F : EFact K C qual st)
    (hb : ∀ (kV doc pm : Value) (an : Option Addr) (cdv ct : Value) (us : List Value), us.length = ps.length → bindArgs (PySem.W.fnOf "__init__" qual (defArgs st) (defBody st) (defScope st) .none kV doc pm an cdv ct) ⟨us, []⟩ = pure (ps.zip us)) : AtE K C qual st ps := by
  obtain ⟨f, oc, od, an, sl, kV, dc, pm, cd, ct, a, l, c, k, i⟩ := F.ex
  have F1 := fun_mk (st := st) l c k
  exact ⟨_, _, F1, F1.binds hb, a, i⟩
/-- what __init__ keeps: two fields -/
def spInitE (C : Addr) (n : Nat) (flds : List V → List (Str × V)) : Sp := fun ws H0 Q _ => ∃ a vs H1, ws = .ref a :: vs ∧ vs.length = n ∧ H1 a = none ∧ H0 = upd H1 a (exo a C none) ∧
  ∀ d H2, H1 d = none → d ≠ a → (∀ b o, H1 b = some o → H2 b = some o) → H2 a = some (exo a C (some d)) → H2 d = some (exd d (flds vs)) → Q .non H2
/-- an exception class whose __init__ keeps its fields -/
structure HasE (P : Program) (w : World) (K : PySem.W.Frag) (mg : Str → Option Value) (base : Heap) (C : Addr) (x : Str) (n : Nat) (flds : List V → List (Str × V)) : Prop where
  ex : ∃ (f : Addr) (fd : FuncData) (ps : List Str), FnOk P w K mg base CX0 1 f fd ps (spInitE C n flds) ∧ Binds K fd ps [] ∧ PySem.W.findIn K (.ref C) "__init__" = some (some (.ref f)) ∧ PySem.W.typeIn K (.ref f) = some (.type "function") ∧ mg x = some (.ref C) ∧ OexC K C
def two (f1 f2 : Str) : List V → List (Str × V)
  | [a, b] => [(f2, b), (f1, a)]
  | _ => []
theorem hasE2 {P : Program} {w : World} {K : PySem.W.Frag} {mg : Str → Option Value} {base : Heap} {C : Addr} {x qual f1 f2 : Str} {st : Stmt} {q1 q2 q3 q4 r1 r2 r3 r4 : Pos} (A : AtE K C qual st ["self", f1, f2]) (S : FnScope ["self", f1, f2] ["self", f1, f2] (defScope st))
    (hb : defBody st = [.Assign [.Attribute (.Name "self" q1) f1 q2] (.Name f1 q3) q4, .Assign [.Attribute (.Name "self" r1) f2 r2] (.Name f2 r3) r4])
    (F : ExcFact K C) (n1 : PySem.W.findIn K (.ref C) f1 = some none) (n2 : PySem.W.findIn K (.ref C) f2 = some none) (g : mg x = some (.ref C)) (d1 : (f1 == ("__debug__" : Str)) = false) (d2 : (f2 == ("__debug__" : Str)) = false)
    (c1 : (f1 == ("__classdict__" : Str)) = false) (c2 : (f2 == ("__classdict__" : Str)) = false) : HasE P w K mg base C x 2 (two f1 f2) := by
  obtain ⟨f, fd, Fn, B, I, Ty⟩ := A.ex
  refine ⟨f, fd, _, ?_, B, I, Ty, g, F.oex⟩
  refine Fn.ok S (fun ws H Q E h => ?_) (fun cdv A outer s H ws Q E hr h => ?_)
  · obtain ⟨a, vs, H1, rfl, hl, _⟩ := h
    show vs.length + 1 = 3
    rw [hl]
  · obtain ⟨a, vs, H1, rfl, hl, na, rfl, k⟩ := h
    match vs, hl, k with
    | [v1, v2], hl, k =>
      have v0 : Vis (defScope st) "self" := (S.par "self" (List.Mem.head _)).elim (fun z => .inl z) (fun z => .inr (.inl z))
      have vis1 : Vis (defScope st) f1 := (S.par f1 (List.Mem.tail _ (List.Mem.head _))).elim (fun z => .inl z) (fun z => .inr (.inl z))
      have vis2 : Vis (defScope st) f2 := (S.par f2 (List.Mem.tail _ (List.Mem.tail _ (List.Mem.head _)))).elim (fun z => .inl z) (fun z => .inr (.inl z))
      rw [hb]
      refine ⟨_, pss_cons (ps_ost (fe_var 0 rfl v0) (fe_var 1 rfl vis1 d1 c1)) (pss_one (ps_ost (fe_var 0 rfl v0) (fe_var 2 rfl vis2 d2 c2))), ?_⟩
      refine ⟨a, C, rfl, F.oex, n1, .inl ⟨upd_same, fun dx ndx nea => ?_⟩⟩
      have hdx : H1 dx = none := by rw [upd_ne nea] at ndx; exact ndx
      refine ⟨a, C, rfl, F.oex, n2, .inr ⟨dx, [(f1, v1)], upd_same, (upd_ne nea).trans upd_same, (show 1 ≤ 900 by decide), ?_⟩⟩
      refine k dx _ hdx nea (fun b o e => ?_) ?_ upd_same
      · rw [upd_ne (ne_of_none e hdx), upd_ne (ne_of_none e na), upd_ne (ne_of_none e hdx), upd_ne (ne_of_none e na)]
        exact e
      · rw [upd_ne (Ne.symm nea)]
        exact upd_same
/-- C(e, ..) -/
def fMkE (C : Addr) (n : Nat) (flds : List V → List (Str × V)) (ta : TA) : L2.St → Hp → XK → Prop := fun σ H Q => ta σ H fun vs H1 => vs.length = n ∧ ∀ d H2, H1 d = none → Same H1 H2 → H2 d = some (.xd (flds vs)) → Q (.ref C) (some d) H2
section
variable {X : Cx} {C : Addr} {x : Str} {n : Nat} {flds : List V → List (Str × V)} {p pos : Pos} {e : Expr} {es : List Expr} {ta : TA}
def closAX (t : TA) : TA := closA t
theorem fmk_e (h : HasE X.prog X.w X.K X.mg X.base C x n flds) (hn : n ≤ 1000) (hr : Room 2 X.A) (hg : Gl X x) (ha : PA X (e :: es) ta) (hdb : (x == ("__debug__" : Str)) = false := by decide)
    (he : starEach (e :: es) X.env = (false, eval e X.env) :: starEach es X.env := by rfl) (hpl : (backTo pos (starEach es X.env)).any (·.1) = false := by rfl) : PMk X (.Call (.Name x p) (e :: es) [] pos) (fMkE C n flds ta) := by
  obtain ⟨f, fd, ps, F, B, I, Ty, g, O⟩ := h.ex
  intro pins s σ H Q Iv q
  refine pmk_oex O I Ty F hr B .nil (fun _ _ _ _ _ _ _ h => h.elim) hg g (pa_clos ha) hdb he hpl pins s σ H Q Iv ⟨_, q, fun vs H1 q => ?_⟩
  obtain ⟨hl, q⟩ := q
  refine ⟨by omega, fun a na => ⟨a, vs, H1, by rw [List.append_nil], hl, na, rfl, fun d H2 nd ne keep ea ed => ⟨rfl, d, flds vs, ea, ed, nd, q d _ nd (fun b o eb => ?_) upd_same⟩⟩⟩
  rw [upd_ne (ne_of_none eb nd), del_ne (ne_of_none eb na)]
  exact keep b o eb
/-- raise C(e, ..) -/
def fRaise (C : Addr) (n : Nat) (flds : List V → List (Str × V)) (W : WX) (ta : TA) : TS := fun _ σ H => ta σ H fun vs H1 => vs.length = n ∧ ∀ d H2, H1 d = none → Same H1 H2 → H2 d = some (.xd (flds vs)) → W (.ref C) (some d) σ H2
theorem fs_raise {W : WX} {pos2 : Pos} (hc : X.calm = true) (tk : Takes X W) (h : HasE X.prog X.w X.K X.mg X.base C x n flds) (hn : n ≤ 1000) (hr : Room 2 X.A) (hg : Gl X x) (ha : PA X (e :: es) ta) (hdb : (x == ("__debug__" : Str)) = false := by decide)
    (he : starEach (e :: es) X.env = (false, eval e X.env) :: starEach es X.env := by rfl) (hpl : (backTo pos (starEach es X.env)).any (·.1) = false := by rfl) : PS X (.Raise (some (.Call (.Name x p) (e :: es) [] pos)) none pos2) (fRaise C n flds W ta) :=
  ps_raise hc tk (fmk_e h hn hr hg ha hdb he hpl)
end
/-- the way out of a def: an exception of class C with two fields -/
def Out (C : Addr) (H : Hp) (fs : List (Str × V)) (E : XK) : Prop := ∀ d H2, H d = none → Same H H2 → H2 d = some (.xd fs) → E (.ref C) (some d) H2
theorem Out.same {C : Addr} {H H1 : Hp} {fs : List (Str × V)} {E : XK} (h : Out C H fs E) (s : Same H H1) : Out C H1 fs E := fun d H2 nd s2 e => h d H2 (by
  cases q : H d with
  | none => rfl
  | some o => rw [s _ _ q] at nd; cases nd) (s.trans s2) e
/-! ### the suite -/
/-- e.f, e the caught one -/
def fXf (a : Addr) (cls : Value) (d : Option Addr) (cs : List Addr) (f : Str) (te : TE) : TE := fun σ H Q => te σ H fun x H1 => x = .ref a ∧ match cls, d with
  | .ref C, some dd => C ∈ cs ∧ match H1 dd with
    | some (.xd fs) => match fs.lookup f with
      | some v => Q v H1
      | none => False
    | _ => False
  | _, _ => False
def XPlain (K : PySem.W.Frag) (cs : List Addr) (f : Str) : Prop := ∀ C ∈ cs, XfC K C ∧ PySem.W.findIn K (.ref C) f = some none
theorem fe_xf {X : Cx} {a : Addr} {cs : List Addr} {oe : Obj} {cls : Value} {d : Option Addr} {pn : List (Addr × Obj)} {e : Expr} {te : TE} {pos : Pos} {n : Str} (T : XPlain X.K cs n)
    (hz : Zc cls d oe) (hf : ∃ vs, oe.data = .fields vs) (he : PE (X.suite a ((a, oe) :: pn)) e te) (hb : attributeBase e n X.env (eval e X.env) = eval e X.env) :
    PE (X.suite a ((a, oe) :: pn)) (.Attribute e n pos) (fXf a cls d cs n te) := by
  refine ⟨fun pins s σ H Q I h => ?_⟩
  refine attr_of hb (thn (he.run pins s σ H _ I h) fun u s1 hh => ?_)
  obtain ⟨x, H1, I1, rx, ex, q⟩ := hh
  subst ex
  obtain rfl : u = Value.ref a := rx
  split at q
  · rename_i C dd
    obtain ⟨m, q⟩ := q
    split at q
    · rename_i fs ea
      split at q
      · rename_i v l
        obtain ⟨ha, _⟩ := I1.pin (a, oe) (List.mem_append_left _ List.mem_cons_self)
        obtain ⟨vs, hd⟩ := hf
        have hx : ObjOk X.prog X.w H1 s1.heap dd (.xd fs) := I1.hok dd _ ea
        obtain ⟨mA, hns, hr⟩ := hx
        obtain ⟨od, ho, hl⟩ := lookIn_ns hns
        obtain ⟨u, hu, ru⟩ := RelO.some_of (v := v) (o := mA n) (by rw [← l]; exact hr n)
        have J : PySem.W.InstAt s1.heap a oe C (some od) := ⟨ha, hz.1, by unfold PySem.W.notCls; rw [hd] <;> rfl, by rw [hz.2]; exact ho⟩
        exact HandSPX.exc_get I1.kIn J (T C m).1.ga (T C m).1.gg (T C m).1.exC (PySem.W.findObj_own (T C m).1.hdC (T C m).2 rfl (by rw [hl, hu])) (handed_of ru) ⟨v, H1, I1.tok _, ru, q⟩
      · exact q.elim
    · exact q.elim
  · exact q.elim
/-- isinstance(e, C), e the caught one -/
structure XKit (K : PySem.W.Frag) (cs ds : List Addr) : Prop where
  f : ∀ C ∈ cs, ExcFact K C
  ob : ObjFact K
  k : ∀ C ∈ cs, ∀ D ∈ ds, ∃ b, PySem.W.kitOne K (.ref C) (.ref D) = some b
def fIsE (K : PySem.W.Frag) (a : Addr) (cls : Value) (d : Option Addr) (cs : List Addr) : List V → Hp → VK → Prop := fun xs H Q => match xs with
  | [x, .ref D] => x = .ref a ∧ (match cls with | .ref C => C ∈ cs | _ => False) ∧ (match d with | none => True | some dd => match H dd with | some (.xd _) => True | _ => False) ∧ ∃ b, PySem.W.kitOne K cls (.ref D) = some b ∧ Q (.bl b) H
  | _ => False
theorem call_fIsE {X : Cx} {a : Addr} {cls : Value} {d : Option Addr} {cs : List Addr} {oe : Obj} {pn : List (Addr × Obj)} (F : ∀ C ∈ cs, ExcFact X.K C) (ob : ObjFact X.K) (hz : Zc cls d oe) (hf : ∃ vs, oe.data = .fields vs) :
    CallR (X.suite a ((a, oe) :: pn)) (.builtin "isinstance") (fIsE X.K a cls d cs) := by
  intro pins s σ H xs us Q I r h
  match xs, r, h with
  | [x, .ref D], r, h =>
    obtain ⟨rfl, hc, hd, b, e, q⟩ := h
    match cls, hc, hz, e with
    | .ref C, hc, hz, e =>
      cases r with
      | cons rx rr =>
        cases rr with
        | cons rt rr =>
          cases rr
          cases rx
          cases rt
          obtain ⟨hget, _⟩ := I.pin (a, oe) (List.mem_append.mpr (.inl List.mem_cons_self))
          obtain ⟨vs, hv⟩ := hf
          have FC := F C hc
          have hcl : (PySem.W.clsIn X.K C).isSome = true := by
            obtain ⟨cd, hcd, _⟩ := PySem.W.any_some FC.hdC
            rw [hcd]; rfl
          have hJ : ∃ od, PySem.W.InstAt s.heap a oe C od := by
            cases d with
            | none =>
              refine ⟨none, hget, hz.1, ?_, ?_⟩
              · unfold PySem.W.notCls; rw [hv] <;> rfl
              · rw [hz.2]; trivial
            | some dd =>
              dsimp only at hd
              split at hd
              · rename_i fs ea
                have hx : ObjOk X.prog X.w H s.heap dd (.xd fs) := I.hok dd _ ea
                obtain ⟨mA, hns, hr⟩ := hx
                obtain ⟨od, ho, hl⟩ := lookIn_ns hns
                exact ⟨some od, hget, hz.1, by unfold PySem.W.notCls; rw [hv] <;> rfl, by rw [hz.2]; exact ho⟩
              · exact hd.elim
          obtain ⟨od, J⟩ := hJ
          exact PySem.W.kia_one (PySem.W.kitx_exc hcl FC.ga FC.gg FC.exC FC.ci ob.gd ob.tk FC.mr) I.kIn J e (fun z => nomatch z) fun tk => ⟨.bl b, H, I.kept (t' := tk) fun _ _ z => z, rfl, q⟩
/-! ### parts that are never reached -/
section
variable {X : Cx}
def fDead : TE := fun _ _ _ => False
def sDead : TS := fun _ _ _ => False
theorem pe_dead {e : Expr} : PE X e fDead := ⟨fun _ _ _ _ _ _ h => h.elim⟩
theorem ps_dead {st : Stmt} : PS X st sDead := ⟨fun _ _ _ _ _ _ h => h.elim⟩
/-! ### truth by value -/
def fTru (K : PySem.W.Frag) (ta : TE) : TT := fun σ H Q => ta σ H fun x H1 => match x with
  | .non => Q false H1
  | .bl b => Q b H1
  | .int i => Q (!decide (i = 0)) H1
  | .str z => z.length ≤ sizeLine ∧ Q (!decide (z.length = 0)) H1
  | .ref p => ∃ xs, Rl K H1 p xs ∧ Q (!xs.isEmpty) H1
  | _ => False
theorem pt_fTru {a : Expr} {ta : TE} (ha : PE X a ta) (he : ∀ whole, isTrue a X.env whole = (do let v ← whole; standAt a.pos; holding [v] (truthy v))) : PT X a (fTru X.K ta) := by
  refine pt_wk (pt_truth (pe_clos ha) he) fun σ H Q q => ⟨_, q, fun x H1 q => ?_⟩
  split at q
  · exact ⟨_, rfl, q⟩
  · exact ⟨_, rfl, q⟩
  · refine ⟨_, rfl, ?_⟩
    rename_i i
    have e : (i != 0) = !decide (i = 0) := by by_cases h : i = 0 <;> simp [h]
    rw [e]; exact q
  · refine ⟨_, ⟨q.1, rfl⟩, ?_⟩
    rename_i z
    have e : ((z.length : Int) != 0) = !decide (z.length = 0) := by by_cases h : z.length = 0 <;> simp [h]
    rw [e]; exact q.2
  · obtain ⟨xs, r, q⟩ := q
    rcases r with r | r
    · exact ⟨_, .inl ⟨xs, r, rfl⟩, q⟩
    · exact ⟨_, .inr (.inl ⟨xs, r, rfl⟩), q⟩
  · exact q.elim
/-! ### f-strings -/
def fFmt (te : TE) : TE := fun σ H Q => te σ H fun x H1 => match x with
  | .str y => y.length ≤ sizeLine ∧ Q (.str y) H1
  | .int i => i.natAbs.log2 < 1920 ∧ Q (.str (toString i)) H1
  | _ => False
theorem fe_fmt {e : Expr} {te : TE} {pos : Pos} (he : PE X e te) : PE X (.FormattedValue e (-1) none pos) (fFmt te) := pe_wk (pe_fmt (pe_clos he)) fun σ H Q q => ⟨_, q, fun x H1 q => by
  split at q
  · exact .inl ⟨_, rfl, q⟩
  · exact .inr ⟨_, rfl, q⟩
  · exact q.elim⟩
inductive PF (X : Cx) : List Expr → List TE → Prop where
  | nil : PF X [] []
  | cons {e : Expr} {t : TE} {es : List Expr} {ts : List TE} (h : PE X e t) (r : PF X es ts) : PF X (e :: es) (t :: ts)
theorem PF_nil : PF X [] [] := .nil
theorem pf_cons {e : Expr} {t : TE} {es : List Expr} {ts : List TE} (h : PE X e t) (r : PF X es ts) : PF X (e :: es) (t :: ts) := .cons h r
def fJs : List TE → Str → L2.St → Hp → (Str → Hp → Prop) → Prop
  | [], acc, _, H, Q => Q acc H
  | t :: ts, acc, σ, H, Q => t σ H fun x H1 => match x with
    | .str y => (acc ++ y).length ≤ sizeLine ∧ fJs ts (acc ++ y) σ H1 Q
    | _ => False
theorem pf_pj {es : List Expr} {ts : List TE} (h : PF X es ts) : PJ X es (ts.map clos) := by
  induction h with
  | nil => exact .nil
  | cons h r ih => exact .cons (pe_clos h) ih
theorem fJs_to : ∀ {ts : List TE} {acc : Str} {σ : L2.St} {H : Hp} {Q : Str → Hp → Prop}, fJs ts acc σ H Q → tJs (ts.map clos) acc σ H Q
  | [], _, _, _, _, h => h
  | t :: ts, acc, σ, H, Q, h => ⟨_, h, fun x H1 q => by
    split at q
    · exact ⟨_, rfl, q.1, fJs_to q.2⟩
    · exact q.elim⟩
def fJoined (ts : List TE) : TE := fun σ H Q => fJs ts Str.empty σ H fun out H1 => Q (.str out) H1
theorem fe_joined {v1 v2 : Expr} {rest : List Expr} {ts : List TE} {pos : Pos} (h : PF X (v1 :: v2 :: rest) ts) : PE X (.JoinedStr (v1 :: v2 :: rest) pos) (fJoined ts) := by
  have h2 := pf_pj h
  exact pe_wk (pe_joined h2) fun σ H Q q => fJs_to q
/-- // by any divisor but 0 -/
def fDivZ : R2 := fun x y H Q => match x, y with
  | .int i, .int j => (j ≠ 0 ∧ j.natAbs.log2 < 9000) ∧ Q (.int (Int.fdiv i j)) H
  | _, _ => False
theorem op_fDivZ : OpR X (binaryOp .FloorDiv) fDivZ := by
  intro pins s σ H x y v u Q I rx ry h
  match x, y, rx, ry, h with
  | .int i, .int j, ⟨t, e⟩, ⟨t', e'⟩, ⟨hc, q⟩ =>
    subst e e'
    exact floordiv_int hc.1 ⟨.int _, H, I.tok _, ⟨_, rfl⟩, q⟩ (.inl (PyProof.noPylong_of_log2 hc.2))
end
theorem WE_wOf {E : XK} {σ : L2.St} : WE (wOf E) σ = E := rfl
/-! ### dicts of the module, text keys -/
def EntOk (K : PySem.W.Frag) (d : Addr) : Str × Option V → Prop
  | (z, none) => PySem.W.nsIn K d z = some none
  | (z, some v) => ∃ u, PySem.W.nsIn K d z = some (some u) ∧ RelV v u
theorem ent_none {K : PySem.W.Frag} {d : Addr} {z : Str} (h : PySem.W.nsIn K d z = some none) : EntOk K d (z, none) := h
theorem ent_str {K : PySem.W.Frag} {d : Addr} {z x : Str} {t : Tok} (h : PySem.W.nsIn K d z = some (some (.str x t))) : EntOk K d (z, some (.str x)) := ⟨_, h, _, rfl⟩
theorem ent_int {K : PySem.W.Frag} {d : Addr} {z : Str} {x : Int} {t : Tok} (h : PySem.W.nsIn K d z = some (some (.int x t))) : EntOk K d (z, some (.int x)) := ⟨_, h, _, rfl⟩
structure DAt (K : PySem.W.Frag) (w : World) (d : Addr) (ks : List (Str × Option V)) : Prop where
  ex : ∃ es n, KDict K w d es n
  en : ∀ p ∈ ks, EntOk K d p
def GDict (K : PySem.W.Frag) (w : World) (mg : Str → Option Value) (x : Str) (ks : List (Str × Option V)) : Prop := ∃ d, mg x = some (.ref d) ∧ DAt K w d ks
structure GDictF (K : PySem.W.Frag) (w : World) (x : Str) (ks : List (Str × Option V)) : Prop where
  ex : ∃ d, PySem.W.nsIn K mainGlobals x = some (some (.ref d)) ∧ DAt K w d ks
theorem GDictF.of {K : PySem.W.Frag} {w : World} {x : Str} {ks : List (Str × Option V)} {d : Addr} {es : Array DictEntry} {n : Nat} (h1 : PySem.W.nsIn K mainGlobals x = some (some (.ref d))) (h2 : K.lookup d = some ⟨.type "dict", none, .dict es n, #[]⟩)
    (h3 : PySem.W.KeysLit w.params es.toList) (h4 : (d == sysModules) = false) (h5 : ∀ p ∈ ks, EntOk K d p) : GDictF K w x ks := ⟨d, h1, ⟨es, n, h2, h3, h4⟩, h5⟩
theorem GDictF.get {K : PySem.W.Frag} {w : World} {mg : Str → Option Value} {x : Str} {ks : List (Str × Option V)} {h : Heap} (X : K.In h) (G : h.Ns mainGlobals mg) (F : GDictF K w x ks) : GDict K w mg x ks := by
  obtain ⟨d, h1, h2⟩ := F.ex
  exact ⟨d, PySem.W.mg_of X G h1, h2⟩
theorem ent_at {K : PySem.W.Frag} {w : World} {d : Addr} {z : Str} {o : Option V} : ∀ {ks : List (Str × Option V)}, (∀ p ∈ ks, EntOk K d p) → ks.lookup z = some o → EntOk K d (z, o)
  | [], _, h => by cases h
  | (y, p) :: ks, hk, h => by
    rw [List.lookup_cons] at h
    split at h
    · rename_i e
      cases h
      have e' := eq_of_beq e
      subst e'
      exact hk _ (List.mem_cons_self ..)
    · exact ent_at (w := w) (fun q hq => hk q (List.mem_cons_of_mem _ hq)) h
def fGd_ (K : PySem.W.Frag) (w : World) (ks : List (Str × Option V)) : TE := fun _ H Q => ∀ d, DAt K w d ks → Q (.ref d) H
section
variable {X : Cx}
theorem fe_gdict {x : Str} {pos : Pos} {ks : List (Str × Option V)} (hg : Gl X x) (h : GDict X.K X.w X.mg x ks) (hd : (x == ("__debug__" : Str)) = false := by decide) : PE X (.Name x pos) (fGd_ X.K X.w ks) := by
  obtain ⟨d, h, hs⟩ := h
  exact pe_wk (pe_glob hg h (v := .ref d) rfl hd) fun σ H Q q => q d hs
/-- z in D, D a dict of the module -/
def fInD (K : PySem.W.Frag) (w : World) (neg : Bool) : R2 := fun x y H Q => match x, y with
  | .str z, .ref d => ∃ ks o, DAt K w d ks ∧ ks.lookup z = some o ∧ Q (.bl (if neg = true then !o.isSome else o.isSome)) H
  | _, _ => False
theorem op_fInD : OpR X (compareOp .In) (fInD X.K X.w false) := by
  intro pins s σ H x y v u Q I rx ry h
  match x, y, rx, ry, h with
  | .str z, .ref d, rx, ry, ⟨ks, o, D, e, q⟩ =>
    obtain ⟨es, n, kd⟩ := D.ex
    have en := ent_at (w := X.w) D.en e
    cases o with
    | none => exact op_in_kd kd pins s σ H _ _ v u Q I rx ry ⟨z, none, rfl, rfl, en, q⟩
    | some v =>
      obtain ⟨u0, e0, _⟩ := en
      exact op_in_kd kd pins s σ H _ _ _ u Q I rx ry ⟨z, some u0, rfl, rfl, e0, q⟩
theorem op_fNotInD : OpR X (compareOp .NotIn) (fInD X.K X.w true) := by
  intro pins s σ H x y v u Q I rx ry h
  match x, y, rx, ry, h with
  | .str z, .ref d, rx, ry, ⟨ks, o, D, e, q⟩ =>
    obtain ⟨es, n, kd⟩ := D.ex
    have en := ent_at (w := X.w) D.en e
    cases o with
    | none => exact op_notIn_kd kd pins s σ H _ _ v u Q I rx ry ⟨z, none, rfl, rfl, en, q⟩
    | some v =>
      obtain ⟨u0, e0, _⟩ := en
      exact op_notIn_kd kd pins s σ H _ _ _ u Q I rx ry ⟨z, some u0, rfl, rfl, e0, q⟩
/-- D[z], D a dict of the module -/
def fIxD (K : PySem.W.Frag) (w : World) : R2 := fun x y H Q => match x, y with
  | .ref d, .str z => ∃ ks v, DAt K w d ks ∧ ks.lookup z = some (some v) ∧ Q v H
  | _, _ => False
theorem ix_fxD : IxR X (fIxD X.K X.w) := by
  intro e1 e2 pins s σ H x y v u Q I rx ry h hs
  match x, y, rx, ry, h with
  | .ref d, .str z, rx, ry, ⟨ks, r, D, e, q⟩ =>
    obtain ⟨es, n, kd⟩ := D.ex
    obtain ⟨u0, e0, r0⟩ := ent_at (w := X.w) D.en e
    exact ix_kdict e1 e2 pins s σ H (.ref d) (.str z) v u Q I rx ry ⟨d, z, r, rfl, rfl, ⟨es, n, u0, kd.at_, kd.lit, e0, r0⟩, q⟩ hs
end
/-! ### scalars as data -/
def dV : V → PyData
  | .non => .none
  | .bl b => .bool b
  | .int i => .int i
  | .str z => .str z
  | _ => .none
def scV : V → Bool
  | .non => true
  | .bl _ => true
  | .int _ => true
  | .str _ => true
  | _ => false
theorem dpAll_sc {K : PySem.W.Frag} {H : Hp} : ∀ {xs : List V}, xs.all scV = true → DpAll K H xs (xs.map dV)
  | [], _ => .nil
  | x :: xs, h => by
    rw [List.all_cons, Bool.and_eq_true] at h
    refine .cons ?_ (dpAll_sc h.2)
    obtain ⟨h1, _⟩ := h
    cases x <;> first
      | exact .non
      | exact .bl _
      | exact .int _
      | exact .str _
      | (exact absurd h1 (by decide))
      | (cases h1)
theorem all_okd {xs : List V} (h : xs.all scV = true) : PyData.plainAll (xs.map dV) = true ∧ PyData.depthAll (xs.map dV) = 0 := by
  induction xs with
  | nil => exact ⟨rfl, rfl⟩
  | cons x xs ih =>
    rw [List.all_cons, Bool.and_eq_true] at h
    obtain ⟨i1, i2⟩ := ih h.2
    obtain ⟨h1, _⟩ := h
    have : (dV x).plain = true ∧ (dV x).depth = 0 := by cases x <;> first | exact ⟨rfl, rfl⟩ | cases h1
    rw [List.map_cons, PyData.plainAll, PyData.depthAll, this.1, this.2, i1, i2]
    exact ⟨rfl, rfl⟩
theorem tup_okd {xs : List V} (h : xs.all scV = true) : okd (.tuple (xs.map dV)) = true := by
  obtain ⟨h1, h2⟩ := all_okd h
  unfold okd
  rw [Bool.and_eq_true]
  exact ⟨by rw [PyData.plain]; exact h1, decide_eq_true (by rw [PyData.depth, h2]; decide)⟩
theorem lst_okd {xs : List V} (h : xs.all scV = true) : okd (.list (xs.map dV)) = true := by
  obtain ⟨h1, h2⟩ := all_okd h
  unfold okd
  rw [Bool.and_eq_true]
  exact ⟨by rw [PyData.plain]; exact h1, decide_eq_true (by rw [PyData.depth, h2]; decide)⟩
theorem tup_eqv {xs : List V} (h : xs.all scV = true) : PyData.eqv (.tuple (xs.map dV)) (.tuple (xs.map dV)) = true := SeqAt.eqv_refl_plain _ (by rw [PyData.plain]; exact (all_okd h).1)
theorem lst_eqv {xs : List V} (h : xs.all scV = true) : PyData.eqv (.list (xs.map dV)) (.list (xs.map dV)) = true := SeqAt.eqv_refl_plain _ (by rw [PyData.plain]; exact (all_okd h).1)
/-- two tuples of the same scalars are equal -/
theorem tup_same {K : PySem.W.Frag} {H : Hp} {p q : Addr} {xs : List V} (hp : SqT K H p xs) (hq : SqT K H q xs) (h : xs.all scV = true) {R : Bool → Prop} (k : R true) :
    ∃ d, Dp K H (.ref p) d ∧ ∃ e, Dp K H (.ref q) e ∧ okd d = true ∧ okd e = true ∧ R (PyData.eqv d e) :=
  ⟨_, .tup hp (dpAll_sc h), _, .tup hq (dpAll_sc h), tup_okd h, tup_okd h, by rw [tup_eqv h]; exact k⟩
theorem lst_same {K : PySem.W.Frag} {H : Hp} {p q : Addr} {xs : List V} (hp : SqL K H p xs) (hq : SqL K H q xs) (h : xs.all scV = true) {R : Bool → Prop} (k : R true) :
    ∃ d, Dp K H (.ref p) d ∧ ∃ e, Dp K H (.ref q) e ∧ okd d = true ∧ okd e = true ∧ R (PyData.eqv d e) :=
  ⟨_, .lst hp (dpAll_sc h), _, .lst hq (dpAll_sc h), lst_okd h, lst_okd h, by rw [lst_eqv h]; exact k⟩
end Fx

set_option Elab.async false
set_option linter.all false
set_option maxRecDepth 100000
/-! Tb: dicts whose keys are tuples of scalars (None and truth values among them), over Ex. -/
namespace Fx
open PySem PySem.Spec PyProof.Rows L2
def leafK : V → NestedKey
  | .bl b => .num (if b = true then 1 else 0)
  | .int i => .num i
  | .str z => .text z
  | _ => .none
/-- a tuple of scalars as a key -/
def tupK (xs : List V) : NestedKey := .tup (xs.map leafK)
abbrev NEnt := NestedKey × Addr × V
abbrev PU : List NEnt → List (NestedKey × Addr × Value) → Prop := Paired fun e u => e.1 = u.1 ∧ e.2.1 = u.2.1 ∧ RelV e.2.2 u.2.2
def atN (es : List NEnt) (k : NestedKey) : Option V := (es.find? fun e => decide (e.1 = k)).map (·.2.2)
def putN (es : List NEnt) (k : NestedKey) (a : Addr) (v : V) : List NEnt := if (atN es k).isSome = true then es.map (fun e => if e.1 = k then (e.1, e.2.1, v) else e) else es ++ [(k, a, v)]
def dropN (es : List NEnt) (k : NestedKey) : List NEnt := es.filter fun e => decide (e.1 ≠ k)
theorem PU.at {es : List NEnt} {us : List (NestedKey × Addr × Value)} (h : PU es us) (k : NestedKey) : RelO (atN es k) ((atKey us k).map (·.2)) := by
  induction h with
  | nil => exact True.intro
  | @cons p q ps qs h t ih =>
    obtain ⟨h1, h2, h3⟩ := h
    by_cases e : p.1 = k
    · have e' : q.1 = k := h1.symm.trans e
      have a : atN (p :: ps) k = some p.2.2 := by simp [atN, List.find?_cons, e]
      have b : atKey (q :: qs) k = some q.2 := by simp [atKey, List.find?_cons, e']
      rw [a, b]; exact h3
    · have e' : ¬ q.1 = k := fun z => e (h1.trans z)
      have a : atN (p :: ps) k = atN ps k := by simp [atN, List.find?_cons, e]
      have b : atKey (q :: qs) k = atKey qs k := by simp [atKey, List.find?_cons, e']
      rw [a, b]; exact ih
theorem PU.put {es : List NEnt} {us : List (NestedKey × Addr × Value)} (h : PU es us) (k : NestedKey) (a : Addr) {v : V} {u : Value} (rv : RelV v u) : PU (putN es k a v) (storedH us k a u) := by
  have e : (atN es k).isSome = (atKey us k).isSome := by rw [(h.at k).isSome_eq, Option.isSome_map]
  unfold putN storedH
  rw [e]
  by_cases q : (atKey us k).isSome = true
  · rw [if_pos q, if_pos q]
    clear q e
    induction h with
    | nil => exact .nil
    | @cons p q ps qs h t ih =>
      rw [List.map_cons, List.map_cons]
      refine .cons ?_ ih
      obtain ⟨h1, h2, h3⟩ := h
      unfold putAt
      by_cases e : p.1 = k
      · rw [if_pos e, if_pos (h1.symm.trans e)]; exact ⟨h1, h2, rv⟩
      · rw [if_neg e, if_neg (fun z => e (h1.trans z))]; exact ⟨h1, h2, h3⟩
  · rw [if_neg q, if_neg q]
    exact Paired.snoc h ⟨rfl, rfl, rv⟩
theorem PU.drop {es : List NEnt} {us : List (NestedKey × Addr × Value)} (h : PU es us) (k : NestedKey) : PU (dropN es k) (withoutH us k) := by
  unfold dropN withoutH
  induction h with
  | nil => exact .nil
  | @cons p q ps qs h t ih =>
    obtain ⟨h1, h2, h3⟩ := h
    rw [List.filter_cons, List.filter_cons]
    by_cases e : p.1 = k
    · have a : ¬ decide (p.1 ≠ k) = true := by simp [e]
      have b : ¬ decide (q.1 ≠ k) = true := by simp [h1.symm.trans e]
      rw [if_neg a, if_neg b]; exact ih
    · have e' : ¬ q.1 = k := fun z => e (h1.trans z)
      have a : decide (p.1 ≠ k) = true := by simp [e]
      have b : decide (q.1 ≠ k) = true := by simp [e']
      rw [if_pos a, if_pos b]; exact .cons ⟨h1, h2, h3⟩ ih
theorem putN_len (es : List NEnt) (k : NestedKey) (a : Addr) (v : V) : (putN es k a v).length ≤ es.length + 1 := by
  unfold putN
  split
  · rw [List.length_map]; omega
  · rw [List.length_append, List.length_cons, List.length_nil]; omega
/-- such a dict -/
def nkO (w : World) (d : Addr) (es : List NEnt) : HO := .ext fun h => es.length ≤ sizeLine ∧ (d == sysModules) = false ∧ ∃ us, PU es us ∧ ∃ o en ep, h.get? d = some o ∧ o.ExactDict ∧ o.data = .dict en ep ∧
  en.toList = us.map (fun u => (⟨u.1.hash w, .ref u.2.1, u.2.2⟩ : DictEntry)) ∧ (us.map (·.1)).Nodup
theorem nkO_ne_tup {w : World} {d : Addr} {es : List NEnt} {xs : List V} : nkO w d es ≠ .tup xs := fun z => by
  have z' : HO.ext _ = HO.tup xs := z
  cases z'
/-- the key's own tuple -/
def KeyT (H : Hp) (k : NestedKey) (a : Addr) : Prop := ∃ xs, H a = some (.tup xs) ∧ xs.all scV = true ∧ k = tupK xs
structure DN (w : World) (H : Hp) (d : Addr) (es : List NEnt) : Prop where
  rd : Rd H d (nkO w d es)
  ks : ∀ e ∈ es, KeyT H e.1 e.2.1
theorem KeyT.mono {H H' : Hp} {k : NestedKey} {a : Addr} (h : KeyT H k a) (s : ∀ b xs, H b = some (.tup xs) → H' b = some (.tup xs)) : KeyT H' k a := h.imp fun _ ⟨e, r⟩ => ⟨s _ _ e, r⟩
section
variable {P : Program} {w : World} {H : Hp} {h : Heap} {a d : Addr} {es : List NEnt}
theorem nested_leaf {x : V} {u : Value} (r : RelV x u) (hs : scV x = true) : NestedIs h (leafK x) u := by
  cases x <;> first
    | (cases r; exact .none)
    | (cases r; exact .bool rfl)
    | (obtain ⟨t, rfl⟩ := r; exact .int _ t)
    | (obtain ⟨t, rfl⟩ := r; exact .text _ t)
    | cases hs
theorem nested_all : ∀ {xs : List V} {us : List Value}, Vals xs us → xs.all scV = true → NestedAll h (xs.map leafK) us
  | _, _, .nil, _ => .nil
  | _, _, .cons r t, hs => by
    rw [List.all_cons, Bool.and_eq_true] at hs
    exact .cons (nested_leaf r hs.1) (nested_all t hs.2)
theorem leaf_depth (x : V) : (leafK x).depth = 0 := by cases x <;> rfl
theorem leaf_depths : ∀ xs : List V, NestedKey.depthAll (xs.map leafK) = 0
  | [] => rfl
  | x :: xs => by rw [List.map_cons, NestedKey.depthAll, leaf_depth, leaf_depths xs]; rfl
theorem KeyT.is {k : NestedKey} (ok : HOk P w H h) (e : KeyT H k a) : (nestedKind P w).is h k a := by
  obtain ⟨xs, e, hs, rfl⟩ := e
  obtain ⟨_, its, r, o, h1, h2, n, h3⟩ := (show ObjOk P w H h a (.tup xs) from ok a _ e)
  refine ⟨.tup h1 h2 h3 (by simpa using nested_all r hs), ?_⟩
  show NestedKey.depthAll (xs.map leafK) + 1 ≤ 8
  rw [leaf_depths]; decide
theorem DN.of (D : DN w H d es) (ok : HOk P w H h) : es.length ≤ sizeLine ∧ (d == sysModules) = false ∧ ∃ us, PU es us ∧ h.DictOfH (nestedKind P w) d us := by
  have x : ObjOk P w H h d (nkO w d es) := D.rd.ok ok
  obtain ⟨⟨z, hd, us, r, o, en, ep, h1, h2, h3, h4, h5⟩, _⟩ := x
  refine ⟨z, hd, us, r, o, en, ep, h1, h2, h3, h4, ?_, h5⟩
  intro x hx
  have all : ∀ {l : List NEnt} {m : List (NestedKey × Addr × Value)}, PU l m → (∀ e ∈ l, KeyT H e.1 e.2.1) → ∀ x ∈ m, (nestedKind P w).is h x.1 x.2.1 := by
    intro l m q
    induction q with
    | nil => intro _ x hx; exact nomatch hx
    | @cons p q ps qs hq t ih =>
      intro hk x hx
      rcases List.mem_cons.mp hx with e | hx
      · subst e
        have := (hk p (List.mem_cons_self ..)).is ok
        rw [hq.1, hq.2.1] at this
        exact this
      · exact ih (fun e he => hk e (List.mem_cons_of_mem _ he)) x hx
  exact all r D.ks x hx
theorem nkO_ok {us : List (NestedKey × Addr × Value)} (z : es.length ≤ sizeLine) (hd : (d == sysModules) = false) (r : PU es us) (dd : h.DictOfH (nestedKind P w) d us) : ObjOk P w H h d (nkO w d es) := by
  obtain ⟨o, en, ep, h1, h2, h3, h4, _, h5⟩ := dd
  exact ⟨⟨z, hd, us, r, o, en, ep, h1, h2, h3, h4, h5⟩, ⟨o, h1⟩, fun g1 g2 ⟨_, _, us', r', o', en', ep', k1, k2, k3, k4, k5⟩ k => ⟨z, hd, us', r', o', en', ep', k _ k1, k2, k3, k4, k5⟩⟩
end
section
variable {X : Cx} {pins : List (Addr × Obj)} {σ : L2.St} {H : Hp} {s : Shared} {d q : Addr} {es : List NEnt} {xs : List V} {A : Around} {E : Value → Shared → Prop}
theorem room_n (hu : A.units + 64 < cLine) : (nestedKind X.prog X.w).room A.in1 := by
  show A.units + 1 + 8 < cLine
  omega
theorem n_getItem {v : V} {Q : Value → Shared → Prop} (hu : A.units + 64 < cLine) (I : Inv X pins σ H s) (D : DN X.w H d es) (hq : KeyT H (tupK xs) q) (e : atN es (tupK xs) = some v) (h : ∀ w' s', Inv X pins σ H s' → RelV v w' → Q w' s') :
    wpAny (model X.prog X.w) A (getItem (.ref d) (.ref q)) Q E s := by
  obtain ⟨z, hd, us, r, dd⟩ := D.of I.hok
  obtain ⟨w', hw, rw'⟩ := RelO.some_of (v := v) (o := (atKey us (tupK xs)).map (·.2)) (by rw [← e]; exact r.at _)
  obtain ⟨p, hp, hp2⟩ := Option.map_eq_some_iff.mp hw
  refine wpAny_getItem_heap (room_n hu) (hq.is I.hok) dd hp ?_
  rw [hp2]
  exact h w' _ (I.tok _) rw'
theorem n_in {Q : Value → Shared → Prop} (hu : A.units + 64 < cLine) (I : Inv X pins σ H s) (D : DN X.w H d es) (hq : KeyT H (tupK xs) q) (h : ∀ s', Inv X pins σ H s' → Q (.bool (atN es (tupK xs)).isSome) s') :
    wpAny (model X.prog X.w) A (compareOp .In (.ref q) (.ref d)) Q E s := by
  obtain ⟨z, hd, us, r, dd⟩ := D.of I.hok
  refine wpAny_in_heap (room_n hu) (hq.is I.hok) hd dd ?_
  have qq := (r.at (tupK xs)).isSome_eq
  rw [Option.isSome_map] at qq
  rw [← qq]
  exact h _ (I.tok _)
theorem n_setItem {v : V} {u : Value} {Q : Unit → Shared → Prop} (hu : A.units + 64 < cLine) (I : Inv X pins σ H s) (D : DN X.w H d es) (e0 : H d = some (nkO X.w d es)) (hq : KeyT H (tupK xs) q) (hl : es.length < sizeLine) (rv : RelV v u)
    (h : ∀ s', Inv X pins σ (upd H d (nkO X.w d (putN es (tupK xs) q v))) s' → Q () s') : wpAny (model X.prog X.w) A (setItem (.ref d) (.ref q) u) Q E s := by
  obtain ⟨z, hd, us, r, dd⟩ := D.of I.hok
  have hz : us.length ≤ sizeLine := by rw [← Paired.length r]; exact z
  refine wpAny_setItem_heap (hsz := hz) (room_n hu) (hq.is I.hok) dd fun h' dd' hs => h _ ?_
  have he : ∃ q, h'.get? d = some q := let ⟨q, _, _, hq, _⟩ := dd'; ⟨q, hq⟩
  exact d_write I (by rw [e0]; exact True.intro) hs he (nkO_ok (Nat.le_trans (putN_len ..) hl) hd (r.put _ _ rv) dd')
theorem n_delItem {Q : Unit → Shared → Prop} (hu : A.units + 64 < cLine) (I : Inv X pins σ H s) (D : DN X.w H d es) (e0 : H d = some (nkO X.w d es)) (hq : KeyT H (tupK xs) q) (e : (atN es (tupK xs)).isSome = true)
    (h : ∀ s', Inv X pins σ (upd H d (nkO X.w d (dropN es (tupK xs)))) s' → Q () s') : wpAny (model X.prog X.w) A (delItem (.ref d) (.ref q)) Q E s := by
  obtain ⟨z, hd, us, r, dd⟩ := D.of I.hok
  have hz : us.length ≤ sizeLine := by rw [← Paired.length r]; exact z
  have qq := (r.at (tupK xs)).isSome_eq
  rw [Option.isSome_map, e] at qq
  obtain ⟨p, hp⟩ := Option.isSome_iff_exists.mp qq.symm
  refine wpAny_delItem_heap (hsz := hz) (room_n hu) (hq.is I.hok) hd dd hp fun h' dd' hs => h _ ?_
  have he : ∃ q, h'.get? d = some q := let ⟨q, _, _, hq, _⟩ := dd'; ⟨q, hq⟩
  exact d_write I (by rw [e0]; exact True.intro) hs he (nkO_ok (Nat.le_trans (List.length_filter_le _ _) z) hd (r.drop _) dd')
end
/-! ### readings and rules -/
def isKey (H : Hp) (q : Addr) (xs : List V) : Prop := H q = some (.tup xs) ∧ xs.all scV = true
theorem isKey.t {H : Hp} {q : Addr} {xs : List V} (h : isKey H q xs) : KeyT H (tupK xs) q := ⟨xs, h.1, h.2, rfl⟩
def fGetN (w : World) (td ty : TE) : TE := fun σ H Q => td σ H fun x H1 => ty σ H1 fun y H2 => match x, y with
  | .ref d, .ref q => ∃ es xs v, DN w H2 d es ∧ isKey H2 q xs ∧ atN es (tupK xs) = some v ∧ Q v H2
  | _, _ => False
def fInN (w : World) (ty td : TE) : TE := fun σ H Q => ty σ H fun y H1 => td σ H1 fun x H2 => match x, y with
  | .ref d, .ref q => ∃ es xs, DN w H2 d es ∧ isKey H2 q xs ∧ Q (.bl (atN es (tupK xs)).isSome) H2
  | _, _ => False
def sPutN (w : World) (td ty tv : TE) : TS := fun D σ H => tv σ H fun v H1 => td σ H1 fun x H2 => ty σ H2 fun y H3 => match x, y with
  | .ref d, .ref q => ∃ es xs, DN w H3 d es ∧ H3 d = some (nkO w d es) ∧ isKey H3 q xs ∧ es.length < sizeLine ∧ D.nx σ (upd H3 d (nkO w d (putN es (tupK xs) q v)))
  | _, _ => False
def sDelN (w : World) (td ty : TE) : TS := fun D σ H => td σ H fun x H1 => ty σ H1 fun y H2 => match x, y with
  | .ref d, .ref q => ∃ es xs, DN w H2 d es ∧ H2 d = some (nkO w d es) ∧ isKey H2 q xs ∧ (atN es (tupK xs)).isSome = true ∧ D.nx σ (upd H2 d (nkO w d (dropN es (tupK xs))))
  | _, _ => False
def fNewN (w : World) : TE := fun _ H Q => ∀ p H2, H p = none → Same H H2 → H2 p = some (nkO w p []) → Q (.ref p) H2
def fLenN (w : World) : List V → Hp → VK → Prop := fun xs H Q => match xs with
  | [.ref d] => ∃ es, DN w H d es ∧ Q (.int es.length) H
  | _ => False
section
variable {X : Cx} {o i e value : Expr} {pos pos' tpos : Pos} {td ty tv : TE}
theorem pe_getN {w : World} (hw : X.w = w) (hu : X.A.units + 64 < cLine) (ho : PE X o td) (hi : PE X i ty) (hs : NoSl i) : PE X (.Subscript o i pos) (fGetN w td ty) := by
  subst hw
  refine ⟨fun pins s σ H Q I h => ?_⟩
  refine subD_of PySem.F.slot_dict_getitem.lookup hs (thn (ho.run pins s σ H _ I h) fun u s1 ⟨x, H1, I1, rx, q1⟩ => thn (hi.run pins s1 σ H1 _ I1 q1) fun iv s2 ⟨y, H2, I2, ry, q2⟩ => ?_)
  match x, y, rx, ry, q2 with
  | .ref d, .ref q, rx, ry, ⟨es, xs, v, D, kq, ev, q2⟩ =>
    obtain rfl : u = Value.ref d := rx
    obtain rfl : iv = Value.ref q := ry
    obtain ⟨_, _, us, _, dd⟩ := D.of I2.hok
    exact ⟨dd.typeIs, n_getItem hu I2 D kq.t ev fun w' s3 I3 rw' => ⟨v, H2, I3, rw', q2⟩⟩
theorem pc_inN {w : World} (hw : X.w = w) (hu : X.A.units + 64 < cLine) (hi : PE X i ty) (ho : PE X o td) : PC X .In i o (fInN w ty td) := by
  subst hw
  refine ⟨fun pins s σ H Q I h => ?_⟩
  refine thn (hi.run pins s σ H _ I h) fun iv s1 ⟨y, H1, I1, ry, q1⟩ => thn (ho.run pins s1 σ H1 _ I1 q1) fun u s2 ⟨x, H2, I2, rx, q2⟩ => ?_
  match x, y, rx, ry, q2 with
  | .ref d, .ref q, rx, ry, ⟨es, xs, D, kq, q2⟩ =>
    obtain rfl : u = Value.ref d := rx
    obtain rfl : iv = Value.ref q := ry
    exact n_in hu I2 D kq.t fun s3 I3 => ⟨.bl _, H2, I3, rfl, q2⟩
theorem ps_putN {w : World} (hw : X.w = w) (hu : X.A.units + 64 < cLine) (ho : PE X o td) (hi : PE X i ty) (hv : PE X value tv) (hs : swapsWith value (some (.Subscript o i pos')) pos.line X.env = pure false) :
    PS X (.Assign [.Subscript o i pos'] value pos) (sPutN w td ty tv) := by
  subst hw
  refine ⟨fun pins s σ H D I h => ?_⟩
  refine wpAny_Assign_Subscript (thn (hv.run pins s σ H _ I h) fun r s1 ⟨v, H1, I1, rv, q1⟩ => thn (ho.run pins s1 σ H1 _ I1 q1) fun u s2 ⟨x, H2, I2, rx, q2⟩ => thn (hi.run pins s2 σ H2 _ I2 q2) fun iv s3 ⟨y, H3, I3, ry, q3⟩ => ?_) hs
  match x, y, rx, ry, q3 with
  | .ref d, .ref q, rx, ry, ⟨es, xs, Dn, e0, kq, hl, q3⟩ =>
    obtain rfl : u = Value.ref d := rx
    obtain rfl : iv = Value.ref q := ry
    exact n_setItem hu I3 Dn e0 kq.t hl rv fun s4 I4 => ⟨σ, _, I4, q3⟩
theorem ps_delN {w : World} (hw : X.w = w) (hu : X.A.units + 64 < cLine) (ho : PE X o td) (hi : PE X i ty) : PS X (.Delete [.Subscript o i tpos] pos) (sDelN w td ty) := by
  subst hw
  refine ⟨fun pins s σ H D I h => ?_⟩
  refine wpAny_Delete (wpAny_deleteEach_cons (wpAny_delete_Subscript (thn (ho.run pins s σ H _ I h) fun u s1 ⟨x, H1, I1, rx, q1⟩ => thn (hi.run pins s1 σ H1 _ I1 q1) fun iv s2 ⟨y, H2, I2, ry, q2⟩ => ?_)))
  match x, y, rx, ry, q2 with
  | .ref d, .ref q, rx, ry, ⟨es, xs, Dn, e0, kq, l, q2⟩ =>
    obtain rfl : u = Value.ref d := rx
    obtain rfl : iv = Value.ref q := ry
    exact n_delItem hu I2 Dn e0 kq.t l fun s3 I3 => wpAny_deleteEach_nil ⟨σ, _, I3, q2⟩
theorem pe_newN {w : World} (hw : X.w = w) : PE X (.Dict [] [] pos) (fNewN w) := by
  subst hw
  refine ⟨fun pins s σ H Q I h => ?_⟩
  refine wpAny_Dict_empty ?_
  have hf : H s.heap.objs.size = none := I.hok.fresh (Nat.le_refl _)
  refine ⟨.ref s.heap.objs.size, upd H s.heap.objs.size (nkO X.w s.heap.objs.size []), I.laid (t' := s.toks) (fun b u e => Heap.get?_push_of_some _ e) (Nat.le_refl _) ?_, rfl, h _ _ hf (same_new hf) upd_same⟩
  exact nkO_ok (us := []) (Nat.zero_le _) (beq_eq_false_iff_ne.mpr (Ne.symm (Nat.ne_of_lt I.big))) .nil (Heap.DictOfH.new _)
theorem call_fLenN {w : World} (hw : X.w = w) : CallR X (.builtin "len") (fLenN w) := by
  subst hw
  intro pins s σ H xs us Q I r h
  match xs, r, h with
  | [.ref d], r, ⟨es, D, q⟩ =>
    obtain ⟨u, rfl, rx⟩ := vals1 r
    obtain rfl : u = .ref d := rx
    obtain ⟨z, hd, ys, rel, dd⟩ := D.of I.hok
    have hl : es.length = ys.length := Paired.length rel
    refine call_len_dictH hd dd (by rw [← hl]; rw [sizeLine_eq] at z; omega) ?_
    rw [← hl]
    exact ⟨.int ((es.length : Nat) : Int), H, I.tok _, ⟨_, rfl⟩, q⟩
end
/-! ### its keys, walked (the dict locked) -/
def Itn (w : World) (d : Addr) (o : Obj) (es : List NEnt) : It :=
  ⟨fun i H => H d = some (.frz o (nkO w d es)) ∧ i < es.length, fun i H x H' => H' = H ∧ ∃ e, es[i]? = some e ∧ x = .ref e.2.1, fun i H => H d = some (.frz o (nkO w d es)) ∧ es.length ≤ i⟩
theorem Inv.frzN {X : Cx} {pins : List (Addr × Obj)} {σ : L2.St} {H : Hp} {s : Shared} {d : Addr} {o : Obj} {es : List NEnt} (I : Inv X pins σ H s) (h : H d = some (.frz o (nkO X.w d es))) :
    (d == sysModules) = false ∧ s.heap.get? d = some o ∧ o.ExactDict ∧ ∃ (en : Array DictEntry) (ep : Nat), o.data = .dict en ep ∧ en.size = es.length ∧
      ∀ (i : Nat) (e : NEnt), es[i]? = some e → ∃ (x : DictEntry), en[i]? = some x ∧ x.key = .ref e.2.1 := by
  obtain ⟨hd, ⟨z, hs, us, r, o', en, ep, ho, hx, hdt, he, _⟩, _⟩ := I.hok d _ h
  rw [hd] at ho
  cases ho
  refine ⟨hs, hd, hx, en, ep, hdt, ?_, fun i e hi => ?_⟩
  · have l1 : en.toList.length = us.length := by rw [he, List.length_map]
    have l2 : es.length = us.length := Paired.length r
    rw [Array.length_toList] at l1
    omega
  · obtain ⟨b, hb, e1, e2, _⟩ := paired_get r hi
    refine ⟨⟨b.1.hash X.w, .ref b.2.1, b.2.2⟩, ?_, by rw [e2]⟩
    rw [← Array.getElem?_toList, he, List.getElem?_map, hb]
    rfl
theorem turn_keysN {P : Program} {w : World} {K : PySem.W.Frag} {tg : Expr} {d : Addr} {o : Obj} {en : Array DictEntry} {ep : Nat} {es : List NEnt} (it : Addr) (hod : o.data = .dict en ep) : Turn P w K tg (Itn w d o es) [it] it (fun i h => h.IsKeyIter it d i es.length ep) where
  mem := by simp
  obj := fun i h st b hb => by
    have e : b = it := by simpa using hb
    subst e
    obtain ⟨oi, e, c, dd⟩ := st
    exact ⟨oi, e, fun v z => by rw [dd] at z; cases z⟩
  keep := fun i h h' st k => st.at fun oi e => k it (by simp) oi e
  item := by
    intro X hP hw hK hc i pins s σ H E I hf st hg
    subst hP hw hK
    obtain ⟨hd, hi⟩ := hg
    obtain ⟨f0, f1, f2, f3, f4, f5⟩ := hf it (by simp)
    obtain ⟨hs, hgd, hx, es', ep', hdt, hsz, ent⟩ := Inv.frzN I hd
    obtain ⟨rfl, rfl⟩ := dict_ep hod hdt
    obtain ⟨e, he⟩ : ∃ p, es[i]? = some p := ⟨es[i], List.getElem?_eq_getElem hi⟩
    obtain ⟨x, hen, hkey⟩ := ent i e he
    refine next_key_item st hgd hdt hsz hen fun h' st' sb => ?_
    have I1 : Inv X pins σ H { s with heap := h' } := I.turned (t' := s.toks) (fun b ob hb e => (sb.2 b hb).trans e) f0 f1 f3 f4 f5
    obtain ⟨oi, e', c, dd⟩ := id st'
    exact ⟨x.key, rfl, go_of (s := { s with heap := h' }) e' c dd (by decide) ⟨.ref e.2.1, H, I1, hkey, ⟨rfl, e, he, rfl⟩, st', fun b hb => (hf b hb).1⟩⟩
  done := by
    intro X hP hw hK hc i pins s σ H E I hf st hg
    subst hP hw hK
    obtain ⟨hd, hi⟩ := hg
    obtain ⟨f0, f1, f2, f3, f4, f5⟩ := hf it (by simp)
    obtain ⟨hs, hgd, hx, es', ep', hdt, hsz, ent⟩ := Inv.frzN I hd
    obtain ⟨rfl, rfl⟩ := dict_ep hod hdt
    exact next_key_end (I.ok.hd hc) st hgd hdt hsz hi fun h' eb => ⟨rfl, I.turned (t' := s.toks) (fun b ob hb e => eb b ob hb e) f0 f1 f3 f4 f5⟩
  self := fun A i s Q E st h => by
    refine wpAny_pyIter_slot st.typeIs F.slot_dict_keyiterator_iter (wpAny_call_entry F.slot_dict_keyiterator_iter st.typeIs F.entry_dict_keyiterator_iter ?_ (F.args_dict_keyiterator_iter_1 _))
    show wpAny _ _ (ret (.ref it)) _ _ s
    exact wpAny_pure ⟨_, rfl, "dict_keyiterator", _, st.typeIs, F.slot_dict_keyiterator_next.lookup, h⟩
def iKeysN (w : World) (td : TE) : TI := fun σ H R => td σ H fun x H1 => match x with
  | .ref d => ∃ o es, H1 d = some (.frz o (nkO w d es)) ∧ R (Itn w d o es) H1
  | _ => False
theorem walk_keysN {w : World} {d : Addr} {o : Obj} {es : List NEnt} : Walk (Itn w d o es) es.length (fun H => H d = some (.frz o (nkO w d es))) (fun i H x H' => H' = H ∧ ∃ e, es[i]? = some e ∧ x = .ref e.2.1) :=
  ⟨fun _ _ hi q => ⟨q, hi⟩, fun _ q => ⟨q, Nat.le_refl _⟩, fun _ _ _ _ _ _ y => y⟩
section
variable {X : Cx} {tg e : Expr} {td : TE}
theorem pi_keysN {w : World} (hw : X.w = w) (he : PE X e td) : PI X tg e (iKeysN w td) := by
  subst hw
  refine ⟨fun pins s σ H R I h => ?_⟩
  refine thn (he.run pins s σ H _ I h) fun u s1 ⟨x, H1, I1, rx, q⟩ => ?_
  match x, rx, q with
  | .ref d, rx, ⟨o, es, hd, q⟩ =>
    obtain rfl : u = Value.ref d := rx
    obtain ⟨hs, hgd, hx, en, ep, hdt, hsz, ent⟩ := Inv.frzN I1 hd
    refine iter_keys hs hgd hx hdt (pi_one (tk := s1.toks) I1 _ (turn_keysN _ hdt) ⟨_, Heap.get?_push_size _ rfl, rfl, ?_⟩ q)
    rw [hsz] <;> rfl
end
theorem lcx_keysN {w : World} {d0 : Addr} {o : Obj} {es : List NEnt} {g : TG} {tt : TT} {te : TE} {vs : List Nat} {σ : L2.St} {H1 : Hp} {D : Addr} {Q : VK} (Pv : Nat → Hp → Prop) (h0 : Pv 0 (upd H1 D (.lst []))) (hl : ∀ i H, i ≤ es.length → Pv i H → H d0 = some (.frz o (nkO w d0 es)))
    (hs : ∀ i x H, es[i]? = some x → Pv i H → g (.ref x.2.1) (wipe σ vs) H fun σ2 H2 => wipe σ2 vs = wipe σ vs ∧ tt σ2 H2 fun b H3 =>
      if b = true then te σ2 H3 fun y H4 => ∃ acc, H4 D = some (.lst acc) ∧ acc.length < sizeLine ∧ Pv (i + 1) (upd H4 D (.lst (acc ++ [y]))) else Pv (i + 1) H3) (hd : ∀ H, Pv es.length H → Q (.ref D) H) : Lc (Itn w d0 o es) g tt te vs σ H1 D Q :=
  lc_it walk_keysN Pv h0 hl (fun i x H H' hi p y => by
    obtain ⟨rfl, e, he, rfl⟩ := y
    exact hs i e _ he p) hd
/-! ### properties -/
structure HasP (P : Program) (w : World) (K : PySem.W.Frag) (mg : Str → Option Value) (base : Heap) (CX : CXT) (C : Addr) (x : Str) (k : Nat) (ps : List Str) (sp : Sp) : Prop where
  ex : ∃ (p g : Addr) (fd : FuncData), PropOf K C x p g ∧ FnOk P w K mg base CX k g fd ps sp ∧ Binds K fd ps []
/-- a property's getter as it stands -/
structure AtP (K : PySem.W.Frag) (C : Addr) (x qual : Str) (st : Stmt) (ps : List Str) : Prop where
  ex : ∃ (p g : Addr) (fd : FuncData), Fun K x qual st g fd ∧ Binds K fd ps [] ∧ PropOf K C x p g
structure PFact (K : PySem.W.Frag) (C : Addr) (x qual : Str) (st : Stmt) : Prop where
  ex : ∃ (p f : Addr) (oc : Value) (od an : Option Addr) (sl : Array (Option Value)) (kV dc pm cd ct : Value),
    PropOf K C x p f ∧ K.lookup f = some ⟨oc, od, .func (PySem.W.fnOf x qual (defArgs st) (defBody st) (defScope st) .none kV dc pm an cd ct), sl⟩ ∧ PySem.W.codeIn K cd qual = true ∧ PySem.W.keepIn K (.ref f) = true
theorem PFact.of {K : PySem.W.Frag} {C : Addr} {x qual : Str} {st : Stmt} {p f : Addr} {oc : Value} {od an : Option Addr} {sl : Array (Option Value)} {kV dc pm cd ct : Value} {rest : List Value}
    (a : PySem.W.findIn K (.ref C) x = some (some (.ref p))) (g : PySem.W.specialIn K (.ref p) "__get__" = some (some (.builtin "property.__get__"))) (t : PySem.W.takesIn K (.ref p) = some true) (r : PySem.W.recIn K p "property" = some (.ref f :: rest))
    (l : K.lookup f = some ⟨oc, od, .func (PySem.W.fnOf x qual (defArgs st) (defBody st) (defScope st) .none kV dc pm an cd ct), sl⟩)
    (c : PySem.W.codeIn K cd qual = true) (k : PySem.W.keepIn K (.ref f) = true) : PFact K C x qual st := ⟨p, f, oc, od, an, sl, kV, dc, pm, cd, ct, ⟨a, g, t, rest, r⟩, l, c, k⟩
theorem AtP.of {K : PySem.W.Frag} {C : Addr} {x qual : Str} {st : Stmt} {ps : List Str} (F : PFact K C x qual st)
    (hb : ∀ (kV doc pm : Value) (an : Option Addr) (cdv ct : Value) (us : List Value), us.length = ps.length → bindArgs (PySem.W.fnOf x qual (defArgs st) (defBody st) (defScope st) .none kV doc pm an cdv ct) ⟨us, []⟩ = pure (ps.zip us)) : AtP K C x qual st ps := by
  obtain ⟨p, f, oc, od, an, sl, kV, dc, pm, cd, ct, pr, l, c, k⟩ := F.ex
  have F1 := fun_mk (st := st) l c k
  exact ⟨_, _, _, F1, F1.binds hb, pr⟩
theorem hasP_of {P : Program} {w : World} {K : PySem.W.Frag} {mg : Str → Option Value} {base : Heap} {C : Addr} {x qual : Str} {st : Stmt} {N ps : List Str} {k : Nat} {sp : Sp} (A : AtP K C x qual st ps) (S : FnScope N ps (defScope st)) (len : ∀ vs H Q E, sp vs H Q E → vs.length = ps.length)
    (hbody : ∀ (cdv : Value) (f : Addr) (A : Around) (outer : List Env) (s : Shared) (H : Hp) (vs : List V) (Q : VK) (E : XK), Room k (A.deeper (envOfC qual (defScope st) s.heap.objs.size f cdv)) → sp vs H Q E →
      ∃ t, PSs (cxOf CX0 P w K mg base N qual (defScope st) f cdv A outer s H E).nox (defBody st) t ∧ t { nx := fun _ H' => Q .non H', rt := Q } (start N vs) H) : HasP P w K mg base CX0 C x (k + 1) ps sp := by
  obtain ⟨p, f, fd, F, B, G⟩ := A.ex
  exact ⟨p, f, fd, G, F.ok S len fun cdv A outer s H vs Q E hr h => hbody cdv f A outer s H vs Q E hr h, B⟩
def fProp (C : Addr) (sp : Sp) (E : XK) (ta : TE) : TE := fun σ H Q => ta σ H fun x H1 => match x with
  | .ref a => match H1 a with
    | some (.ins D _ _) => D = C ∧ sp [.ref a] H1 Q E
    | _ => False
  | _ => False
theorem fe_prop {X : Cx} {CX : CXT} {k : Nat} {C : Addr} {x : Str} {ps : List Str} {sp : Sp} {E : XK} {e : Expr} {pos : Pos} {ta : TE} (h : HasP X.prog X.w X.K X.mg X.base CX C x k ps sp) (c : Cls X.K C) (hr : Room (k + 1) X.A) (hx : Passes CX X.nox E) (he : PE X e ta)
    (hab : attributeBase e x X.env (eval e X.env) = eval e X.env) : PE X (.Attribute e x pos) (fProp C sp E ta) := by
  obtain ⟨p, g, fd, hp, F, B⟩ := h.ex
  refine pe_wk (pe_prop (pe_clos he) c hp F hr B .nil hx hab) fun σ H Q q => ⟨_, q, fun y H1 q1 => ?_⟩
  match y, q1 with
  | .ref a, q1 =>
    dsimp only at q1
    split at q1
    · obtain ⟨h1, q2⟩ := q1
      rename_i D dx fs ea
      subst h1
      exact ⟨_, _, _, rfl, ea, q2⟩
    · exact q1.elim
end Fx

set_option Elab.async false
set_option linter.all false
set_option maxRecDepth 100000
/-! Mr: list methods, dicts with text keys, exceptions as values, by value, over Tb. -/
namespace Fx
open PySem PySem.Spec PyProof.Rows L2
section
variable {X : Cx}
/-! ### list methods -/
def fPop : V → List V → Hp → VK → Prop := fun x vs H Q => match x, vs with
  | .ref l, [] => match H l with
    | some (.lst xs) => ∃ y, xs[xs.length - 1]? = some y ∧ Q y (upd H l (.lst xs.dropLast))
    | _ => False
  | _, _ => False
theorem mt_fPop : MtR X "list.pop" fPop := by
  intro pins s σ H x xs v us Q I rx rs h
  unfold fPop at h
  split at h
  · split at h
    · obtain ⟨y, h1, h2⟩ := h
      exact mt_pop pins s σ H _ _ v us Q I rx rs ⟨_, _, y, rfl, rfl, by assumption, h1, h2⟩
    · exact h.elim
  · exact h.elim
def fPopAt : V → List V → Hp → VK → Prop := fun x vs H Q => match x, vs with
  | .ref l, [.int i] => match H l with
    | some (.lst xs) => ∃ k y, ixN xs.length i = some k ∧ xs[k]? = some y ∧ xs.length ≤ 100000 ∧ Q y (upd H l (.lst (xs.eraseIdx k)))
    | _ => False
  | _, _ => False
theorem mt_fPopAt : MtR X "list.pop" fPopAt := by
  intro pins s σ H x xs v us Q I rx rs h
  unfold fPopAt at h
  split at h
  · split at h
    · obtain ⟨k, y, h1, h2, h4, h3⟩ := h
      obtain ⟨e, _, lo, hi⟩ := ixN_seq h1
      exact mt_popAt pins s σ H _ _ v us Q I rx rs ⟨_, _, _, k, y, rfl, rfl, by assumption, by omega, by omega, e, h2, h3⟩
    · exact h.elim
  · exact h.elim
def fReverse : V → List V → Hp → VK → Prop := fun x vs H Q => match x, vs with
  | .ref l, [] => match H l with
    | some (.lst xs) => Q .non (upd H l (.lst xs.reverse))
    | _ => False
  | _, _ => False
theorem mt_fReverse : MtR X "list.reverse" fReverse := by
  intro pins s σ H x xs v us Q I rx rs h
  unfold fReverse at h
  split at h
  · split at h
    · exact mt_reverse pins s σ H _ _ v us Q I rx rs ⟨_, _, rfl, rfl, by assumption, h⟩
    · exact h.elim
  · exact h.elim
def fExtend : V → List V → Hp → VK → Prop := fun x vs H Q => match x, vs with
  | .ref l, [.ref b] => match H l, H b with
    | some (.lst xs), some (.lst zs) => xs.length + zs.length ≤ sizeLine ∧ Q .non (upd H l (.lst (xs ++ zs)))
    | _, _ => False
  | _, _ => False
theorem mt_fExtend : MtR X "list.extend" fExtend := by
  intro pins s σ H x xs v us Q I rx rs h
  unfold fExtend at h
  split at h
  · split at h
    · exact mt_extend pins s σ H _ _ v us Q I rx rs ⟨_, _, _, _, rfl, rfl, by assumption, by assumption, h⟩
    · exact h.elim
  · exact h.elim
def fInsert : V → List V → Hp → VK → Prop := fun x vs H Q => match x, vs with
  | .ref l, [.int i, y] => match H l with
    | some (.lst xs) => xs.length < sizeLine ∧ 0 ≤ i ∧ i < 2 ^ 63 ∧ Q .non (upd H l (.lst (xs.take i.toNat ++ [y] ++ xs.drop i.toNat)))
    | _ => False
  | _, _ => False
theorem mt_fInsert : MtR X "list.insert" fInsert := by
  intro pins s σ H x xs v us Q I rx rs h
  unfold fInsert at h
  split at h
  · split at h
    · exact mt_insert pins s σ H _ _ v us Q I rx rs ⟨_, _, _, _, rfl, rfl, by assumption, h⟩
    · exact h.elim
  · exact h.elim
/-! ### dicts with text (and number) keys -/
def keyV : V → Option Key
  | .int i => some (.inl i)
  | .str z => some (.inr z)
  | _ => none
theorem keyV_kV {x : V} {k : Key} (h : keyV x = some k) : x = kV k := by
  cases x <;> first
    | (cases h; rfl)
    | cases h
def fGetK (td ty : TE) : TE := fun σ H Q => td σ H fun x H1 => ty σ H1 fun y H2 => match x, keyV y with
  | .ref a, some k => ∃ kvs v, Rd H2 a (.dK kvs) ∧ valV kvs k = some v ∧ Q v H2
  | _, _ => False
def fInK (neg : Bool) (ty td : TE) : TE := fun σ H Q => ty σ H fun y H1 => td σ H1 fun x H2 => match x, keyV y with
  | .ref a, some k => ∃ kvs, Rd H2 a (.dK kvs) ∧ Q (.bl (if neg = true then !(valV kvs k).isSome else (valV kvs k).isSome)) H2
  | _, _ => False
def sPutK (td ty tv : TE) : TS := fun D σ H => tv σ H fun v H1 => td σ H1 fun x H2 => ty σ H2 fun y H3 => match x, keyV y with
  | .ref a, some k => ∃ kvs, H3 a = some (.dK kvs) ∧ kvs.length < sizeLine ∧ D.nx σ (upd H3 a (.dK (putK kvs k v)))
  | _, _ => False
def sDelK (td ty : TE) : TS := fun D σ H => td σ H fun x H1 => ty σ H1 fun y H2 => match x, keyV y with
  | .ref a, some k => ∃ kvs, H2 a = some (.dK kvs) ∧ (valV kvs k).isSome = true ∧ D.nx σ (upd H2 a (.dK (dropK kvs k)))
  | _, _ => False
section
variable {o i value : Expr} {pos pos' tpos : Pos} {td ty tv : TE}
theorem pe_getK (hu : X.A.units + 1 < cLine) (ho : PE X o td) (hi : PE X i ty) (hs : NoSl i) : PE X (.Subscript o i pos) (fGetK td ty) :=
  pe_wk (pe_dget hu (pe_clos ho) (pe_clos hi) hs) fun σ H Q q => ⟨_, q, fun x H1 q => ⟨_, q, fun y H2 q => by
    split at q
    · obtain ⟨kvs, v, r, hv, q⟩ := q
      exact ⟨_, v, rfl, .inl ⟨kvs, _, r, keyV_kV (by assumption), hv.symm⟩, q⟩
    · exact q.elim⟩⟩
theorem pc_wk {op : CmpOp} {a b : Expr} {t t' : TE} (h : PC X op a b t) (w : ∀ σ H Q, t' σ H Q → t σ H Q) : PC X op a b t' := ⟨fun pins s σ H Q I q => h.run pins s σ H Q I (w σ H Q q)⟩
theorem pc_inK (hu : X.A.units + 1 < cLine) (hi : PE X i ty) (ho : PE X o td) : PC X .In i o (fInK false ty td) :=
  pc_wk (pc_din hu (pe_clos hi) (pe_clos ho)) fun σ H Q q => ⟨_, q, fun y H1 q => ⟨_, q, fun x H2 q => by
    split at q
    · obtain ⟨kvs, r, q⟩ := q
      exact ⟨_, _, rfl, .inl ⟨kvs, _, r, keyV_kV (by assumption), rfl⟩, q⟩
    · exact q.elim⟩⟩
theorem pc_notinK (hu : X.A.units + 1 < cLine) (hi : PE X i ty) (ho : PE X o td) : PC X .NotIn i o (fInK true ty td) :=
  pc_wk (pc_dnotin hu (pe_clos hi) (pe_clos ho)) fun σ H Q q => ⟨_, q, fun y H1 q => ⟨_, q, fun x H2 q => by
    split at q
    · obtain ⟨kvs, r, q⟩ := q
      exact ⟨_, _, rfl, .inl ⟨kvs, _, r, keyV_kV (by assumption), rfl⟩, q⟩
    · exact q.elim⟩⟩
theorem ps_putK (hu : X.A.units + 1 < cLine) (ho : PE X o td) (hi : PE X i ty) (hv : PE X value tv) (hs : swapsWith value (some (.Subscript o i pos')) pos.line X.env = pure false) :
    PS X (.Assign [.Subscript o i pos'] value pos) (sPutK td ty tv) :=
  ps_wk (ps_dput hu (pe_clos ho) (pe_clos hi) (pe_clos hv) hs) fun D σ H q => ⟨_, q, fun v H1 q => ⟨_, q, fun x H2 q => ⟨_, q, fun y H3 q => by
    split at q
    · obtain ⟨kvs, h1, h2, q⟩ := q
      exact ⟨_, _, rfl, .inl ⟨kvs, _, h1, keyV_kV (by assumption), h2, rfl⟩, q⟩
    · exact q.elim⟩⟩⟩
theorem ps_delK (ho : PE X o td) (hi : PE X i ty) : PS X (.Delete [.Subscript o i tpos] pos) (sDelK td ty) :=
  ps_wk (ps_ddel (pe_clos ho) (pe_clos hi)) fun D σ H q => ⟨_, q, fun x H1 q => ⟨_, q, fun y H2 q => by
    split at q
    · obtain ⟨kvs, h1, h2, q⟩ := q
      exact ⟨_, kvs, _, rfl, h1, keyV_kV (by assumption), h2, q⟩
    · exact q.elim⟩⟩
end
/-- list(d): the keys -/
def fListD : List V → Hp → VK → Prop := fun xs H Q => match xs with
  | [.ref a] => ∃ kvs, Rd H a (.dK kvs) ∧ ∀ p H1, H p = none → Same H H1 → H1 p = some (.lst (kvs.map fun kv => kV kv.1)) → Q (.ref p) H1
  | _ => False
theorem call_fListD (hc : X.calm = true) : CallR X (.type "list") fListD := by
  intro pins s σ H xs us Q I r h
  match xs, r, h with
  | [.ref a], r, ⟨kvs, h1, h2⟩ => exact call_listD hc pins s σ H _ us Q I r ⟨a, kvs, rfl, h1, fun p np => h2 p _ np (same_new np) upd_same⟩
/-! ### exceptions as values -/
def fMkV (C : Addr) (n : Nat) (flds : List V → List (Str × V)) (ta : TA) : TE := fun σ H Q => ta σ H fun vs H1 => vs.length = n ∧ ∀ a d H2, H1 a = none → H1 d = none → Same H1 H2 → H2 a = some (exo a C (some d)) → H2 d = some (exd d (flds vs)) → Q (.ref a) H2
theorem fe_mkV {C : Addr} {x : Str} {n : Nat} {flds : List V → List (Str × V)} {p pos : Pos} {e : Expr} {es : List Expr} {ta : TA} (h : HasE X.prog X.w X.K X.mg X.base C x n flds) (hn : n ≤ 1000) (hr : Room 2 X.A) (hg : Gl X x) (ha : PA X (e :: es) ta) (hdb : (x == ("__debug__" : Str)) = false := by decide)
    (he : starEach (e :: es) X.env = (false, eval e X.env) :: starEach es X.env := by rfl) (hpl : (backTo pos (starEach es X.env)).any (·.1) = false := by rfl) : PE X (.Call (.Name x p) (e :: es) [] pos) (fMkV C n flds ta) := by
  obtain ⟨f, fd, ps, F1, hb, iC, tI, hm, T⟩ := h.ex
  refine ⟨fun pins s σ H Q I h => ?_⟩
  obtain ⟨nm, q, N, bs, bm, sn, sub, ab, col, dd, k0, k1, k2, k3, k5, hC, hbm⟩ := T.cls
  refine wpAny_Call_Name_kw (ld_glob I hg hm ?_ hdb)
  refine PySem.W.callWith_K (h₀ := X.base) I.ok.mod.kin T.kC (thn (ha.run pos pins s σ H _ I h) fun us s1 ⟨vs, H1, I1, r1, hz, q1⟩ => ⟨I1.kIn, ?_⟩) he hpl
  show wpAny _ _ (call (.ref C) us) _ _ _
  obtain ⟨hp, g, dr, tk, os⟩ := s1
  have hsz : hp.objs.size ≤ hp.objs.size + 1 := Nat.le_succ _
  have hn1 : H1 (hp.objs.size + 1) = none := I1.hok.fresh hsz
  have hq : spInitE C n flds (V.ref (hp.objs.size + 1) :: vs) (upd H1 (hp.objs.size + 1) (exo (hp.objs.size + 1) C none)) (fun v H2 => v = .non ∧ Q (.ref (hp.objs.size + 1)) H2) (fun _ _ _ => False) :=
    ⟨_, vs, H1, rfl, hz, hn1, rfl, fun d H2 nd ne keep ea ed => ⟨rfl, q1 _ d H2 hn1 nd keep ea ed⟩⟩
  have kk : ∀ b o, hp.get? b = some o → ((hp.push (PySem.W.kdv_tup us)).push (PySem.HandSPX.excO C hp.objs.size)).get? b = some o := fun b o e => Heap.get?_push_of_some _ (Heap.get?_push_of_some _ e)
  have hget : ((hp.push (PySem.W.kdv_tup us)).push (PySem.HandSPX.excO C hp.objs.size)).get? (hp.objs.size + 1) = some (PySem.HandSPX.excO C hp.objs.size) := by heap_get
  have I2 : Inv X pins σ (upd H1 (hp.objs.size + 1) (exo (hp.objs.size + 1) C none)) ⟨(hp.push (PySem.W.kdv_tup us)).push (PySem.HandSPX.excO C hp.objs.size), g, dr, tk, os⟩ :=
    I1.laid (t' := tk) (a := hp.objs.size + 1) (o := exo (hp.objs.size + 1) C none) (h' := (hp.push (PySem.W.kdv_tup us)).push (PySem.HandSPX.excO C hp.objs.size)) kk hsz (exo_ok hget)
  have r2 : Vals (V.ref (hp.objs.size + 1) :: vs) (Value.ref (hp.objs.size + 1) :: us) := .cons rfl r1
  have hl : (Value.ref (hp.objs.size + 1) :: us).length = ps.length := by
    have e := r2.length
    rw [F1.len _ _ _ _ hq] at e
    exact e.symm
  have hus : us.length ≤ sizeLine := by
    rw [← Paired.length r1, sizeLine_eq]
    omega
  have hb' := hb ⟨(hp.push (PySem.W.kdv_tup us)).push (PySem.HandSPX.excO C hp.objs.size), g, dr, tk, os⟩ (Value.ref (hp.objs.size + 1) :: us) I2.kIn (by rw [List.append_nil]; exact hl)
  rw [List.append_nil] at hb'
  refine wpAny_call (PySem.HandSPX.call_own F.excBase_ValueError (fun Y => PySem.HandSPX.refsVE_contains Y bm hbm) (I1.kIn _ _ hC) (PySem.W.looks_findIn I1.kIn iC) (fun self => PySem.W.bind_fn I1.kIn self tI) hus
    (codeAny_mono (F1.run _ X.stack _ _ ⟨Value.ref (hp.objs.size + 1) :: us, []⟩ (Value.ref (hp.objs.size + 1) :: us) _ _ (fun _ _ _ => False) (hr.make C us []) (I2.env0.make C us []) hb' r2 hq) fun r s' hq' => ?_))
  cases r with
  | error er => exact hq'.elim
  | ok fl =>
    cases fl with
    | ret u =>
      obtain ⟨v, H', I3, rv, ev, q3⟩ := I2.after hq'
      subst ev
      exact ⟨rv, ⟨V.ref (hp.objs.size + 1), H', I3, rfl, q3⟩⟩
    | next => exact False.elim hq'
    | brk => exact False.elim hq'
    | cont => exact False.elim hq'
/-- an exception of class C with these fields, held -/
def IsExo (H : Hp) (a C : Addr) (fs : List (Str × V)) : Prop := ∃ d, H a = some (exo a C (some d)) ∧ H d = some (exd d fs)
theorem IsExo.same {H H' : Hp} {a C : Addr} {fs : List (Str × V)} (h : IsExo H a C fs) (s : Same H H') : IsExo H' a C fs := h.imp fun _ ⟨x, y⟩ => ⟨s _ _ x, s _ _ y⟩
theorem exo_inst {pins : List (Addr × Obj)} {σ : L2.St} {H : Hp} {s : Shared} {a C : Addr} {fs : List (Str × V)} (I : Inv X pins σ H s) (h : IsExo H a C fs) : ∃ (oe od : Obj) (mA : Str → Option Value), PySem.W.InstAt s.heap a oe C (some od) ∧ (∀ f, RelO (fs.lookup f) (mA f)) ∧ (∀ f, PySem.W.lookIn f od = some (mA f)) := by
  obtain ⟨d, e1, e2⟩ := h
  obtain ⟨t1, he⟩ := exo_at I.hok e1
  obtain ⟨mA, hns, rel⟩ := exd_at I.hok e2
  obtain ⟨od, ho, hl⟩ := lookIn_ns hns
  exact ⟨_, od, mA, ⟨he, rfl, rfl, ho⟩, rel, hl⟩
/-- e.f of such -/
def fXo (K : PySem.W.Frag) (cs : List Addr) (f : Str) (te : TE) : TE := fun σ H Q => te σ H fun x H1 => match x with
  | .ref a => ∃ C fs v, C ∈ cs ∧ IsExo H1 a C fs ∧ fs.lookup f = some v ∧ Q v H1
  | _ => False
theorem fe_xo {cs : List Addr} {e : Expr} {te : TE} {pos : Pos} {n : Str} (T : XPlain X.K cs n) (he : PE X e te) (hb : attributeBase e n X.env (eval e X.env) = eval e X.env) : PE X (.Attribute e n pos) (fXo X.K cs n te) := by
  refine ⟨fun pins s σ H Q I h => ?_⟩
  refine attr_of hb (thn (he.run pins s σ H _ I h) fun u s1 hh => ?_)
  obtain ⟨x, H1, I1, rx, q⟩ := hh
  match x, rx, q with
  | .ref a, rx, ⟨C, fs, v, m, hx, l, q⟩ =>
    obtain rfl : u = Value.ref a := rx
    obtain ⟨oe, od, mA, J, rel, hl⟩ := exo_inst I1 hx
    obtain ⟨u, hu, ru⟩ := RelO.some_of (v := v) (o := mA n) (by rw [← l]; exact rel n)
    exact HandSPX.exc_get I1.kIn J (T C m).1.ga (T C m).1.gg (T C m).1.exC (PySem.W.findObj_own (T C m).1.hdC (T C m).2 rfl (by rw [hl, hu])) (handed_of ru) ⟨v, H1, I1.tok _, ru, q⟩
/-- isinstance(e, C) of such -/
def fIsX (K : PySem.W.Frag) (cs : List Addr) : List V → Hp → VK → Prop := fun xs H Q => match xs with
  | [.ref a, .ref D] => ∃ C fs, C ∈ cs ∧ IsExo H a C fs ∧ ∃ b, PySem.W.kitOne K (.ref C) (.ref D) = some b ∧ Q (.bl b) H
  | _ => False
theorem call_fIsX {cs : List Addr} (F : ∀ C ∈ cs, ExcFact X.K C) (ob : ObjFact X.K) : CallR X (.builtin "isinstance") (fIsX X.K cs) := by
  intro pins s σ H xs us Q I r h
  match xs, r, h with
  | [.ref a, .ref D], r, ⟨C, fs, m, hx, b, e, q⟩ =>
    obtain ⟨u1, u2, rfl, r1, r2⟩ := vals2 r
    cases r1
    cases r2
    have FC := F C m
    have hcl : (PySem.W.clsIn X.K C).isSome = true := by
      obtain ⟨cd, hcd, _⟩ := PySem.W.any_some FC.hdC
      rw [hcd]; rfl
    obtain ⟨oe, od, mA, J, rel, hl⟩ := exo_inst I hx
    exact PySem.W.kia_one (PySem.W.kitx_exc hcl FC.ga FC.gg FC.exC FC.ci ob.gd ob.tk FC.mr) I.kIn J e (fun z => nomatch z) fun tk => ⟨.bl b, H, I.kept (t' := tk) fun _ _ z => z, rfl, q⟩
end
end Fx

set_option Elab.async false
set_option linter.all false
set_option maxRecDepth 100000
/-! Dk: displays of dicts with text keys, walks over their keys, by value, over Mr. -/
namespace Fx
open PySem PySem.Spec PyProof.Rows L2
/-! ### {"a": v, ..} -/
def fPairs : List (Key × TE) → L2.St → Hp → (List (Key × V) → Hp → Prop) → Prop
  | [], _, H, Q => Q [] H
  | (k, tv) :: r, σ, H, Q => tv σ H fun y H1 => fPairs r σ H1 fun ps H2 => Q ((k, y) :: ps) H2
abbrev FPs (X : Cx) (pos : Pos) (keys : List (Option Expr)) (values : List Expr) (trs : List (Key × TE)) : Prop := PPs X pos keys values (trs.map fun p => (tC (kV p.1), clos p.2))
theorem fps_nil {X : Cx} {pos : Pos} : FPs X pos [] [] [] := pps_nil
theorem fps_cons {X : Cx} {pos : Pos} {x : Str} {j : Nat} {p : Pos} {v : Expr} {ks : List (Option Expr)} {vs : List Expr} {tv : TE} {trs : List (Key × TE)} (hv : PE X v tv) (hr : FPs X pos ks vs trs) :
    FPs X pos (some (.Constant (.str x) j p) :: ks) (v :: vs) ((.inr x, tv) :: trs) := pps_cons pe_str (pe_clos hv) hr
theorem fPairs_t : ∀ {trs : List (Key × TE)} {σ : L2.St} {H : Hp} {R : List (Key × V) → Hp → Prop} {Q : List (V × V) → Hp → Prop}, fPairs trs σ H R → (∀ kvs H2, kvs.map (·.1) = trs.map (·.1) → R kvs H2 → Q (kvs.map fun kv => (kV kv.1, kv.2)) H2) → tPairs (trs.map fun p => (tC (kV p.1), clos p.2)) σ H Q
  | [], σ, H, R, Q, h, w => w [] H rfl h
  | (k, tv) :: r, σ, H, R, Q, h, w => ⟨_, h, fun y H1 q => fPairs_t q fun kvs H2 e z => w ((k, y) :: kvs) H2 (by rw [List.map_cons, List.map_cons, e]) z⟩
theorem mergeK_nd : ∀ (kvs acc : List (Key × V)), ((acc ++ kvs).map (·.1)).Nodup → mergeK acc kvs = acc ++ kvs
  | [], acc, _ => (List.append_nil acc).symm
  | p :: r, acc, h => by
    have hn : ¬ (acc.any fun kv => decide (kv.1 = p.1)) = true := by
      intro z
      obtain ⟨q, hq, e⟩ := List.any_eq_true.mp z
      have e := of_decide_eq_true e
      rw [List.map_append, List.nodup_append] at h
      exact h.2.2 _ (List.mem_map_of_mem hq) _ (List.mem_map_of_mem (List.mem_cons_self ..)) e
    have e1 : putK acc p.1 p.2 = acc ++ [p] := by unfold putK; rw [if_neg hn]
    show mergeK (putK acc p.1 p.2) r = _
    rw [e1, mergeK_nd r (acc ++ [p]) (by rw [List.append_assoc]; exact h), List.append_assoc]; rfl
def fDisp (trs : List (Key × TE)) : TE := fun σ H Q => ∀ p H0, H p = none → Same H H0 → H0 p = some (.dK []) → fPairs trs σ H0 fun kvs H2 => H2 p = some (.dK []) ∧ ∀ H3, H3 = upd H2 p (.dK kvs) → Q (.ref p) H3
theorem fe_disp {X : Cx} {pos : Pos} {keys : List (Option Expr)} {values : List Expr} {trs : List (Key × TE)} (h : FPs X pos keys values trs) (hn : (trs.map (·.1)).Nodup) (hall : keys.all (·.isSome) = true) (hl : keys.length = values.length) (h0 : keys ≠ [])
    (h15 : keys.length ≤ 15) (ht : trs.length ≤ 15) : PE X (.Dict keys values pos) (fDisp trs) :=
  pe_wk (pe_disp h hall hl h0 h15) fun σ H Q q p np => fPairs_t (q p _ np (same_new np) upd_same) fun kvs H2 e z => ⟨z.1, kvs, rfl, by
    have : kvs.length = trs.length := by have := congrArg List.length e; simpa using this
    omega, z.2 _ (by rw [mergeK_nd kvs [] (by rw [List.nil_append, e]; exact hn), List.nil_append])⟩
/-! ### for k in d -/
def iKeysK (td : TE) : TI := fun σ H R => td σ H fun x H1 => match x with
  | .ref d => ∃ o kvs, H1 d = some (.frz o (.dK kvs)) ∧ R (Itk d o kvs) H1
  | _ => False
theorem pi_keysK {X : Cx} {tg e : Expr} {td : TE} (he : PE X e td) : PI X tg e (iKeysK td) :=
  ⟨fun pins s σ H R I h => (pi_keys (pe_clos he)).run pins s σ H R I ⟨_, h, fun x H1 q => by
    match x, q with
    | .ref d, ⟨o, kvs, hd, q⟩ => exact ⟨d, o, rfl, .inl ⟨kvs, hd, q⟩⟩⟩⟩
theorem lcx_keysK {d0 : Addr} {o : Obj} {kvs : List (Key × V)} {g : TG} {tt : TT} {te : TE} {vs : List Nat} {σ : L2.St} {H1 : Hp} {D : Addr} {Q : VK} (Pv : Nat → Hp → Prop) (h0 : Pv 0 (upd H1 D (.lst []))) (hl : ∀ i H, i ≤ kvs.length → Pv i H → H d0 = some (.frz o (.dK kvs)))
    (hs : ∀ i k v H, kvs[i]? = some (k, v) → Pv i H → g (kV k) (wipe σ vs) H fun σ2 H2 => wipe σ2 vs = wipe σ vs ∧ tt σ2 H2 fun b H3 =>
      if b = true then te σ2 H3 fun y H4 => ∃ acc, H4 D = some (.lst acc) ∧ acc.length < sizeLine ∧ Pv (i + 1) (upd H4 D (.lst (acc ++ [y]))) else Pv (i + 1) H3) (hd : ∀ H, Pv kvs.length H → Q (.ref D) H) : Lc (Itk d0 o kvs) g tt te vs σ H1 D Q :=
  lc_it walk_keys Pv h0 hl (fun i x H H' hi p y => by
    obtain ⟨rfl, k, v, he, rfl⟩ := y
    exact hs i k v _ he p) hd
end Fx

set_option Elab.async false
set_option linter.all false
set_option maxRecDepth 100000
/-! Fk: one of two ways to read an expression (a method of several classes), copies of dicts. -/
namespace Fx
open PySem PySem.Spec PyProof.Rows L2
def tEither (t1 t2 : TE) : TE := fun σ H Q => t1 σ H Q ∨ t2 σ H Q
theorem pe_either {X : Cx} {e : Expr} {t1 t2 : TE} (h1 : PE X e t1) (h2 : PE X e t2) : PE X e (tEither t1 t2) := ⟨fun pins s σ H Q I q => q.elim (h1.run pins s σ H Q I) (h2.run pins s σ H Q I)⟩
/-- dict(d): a copy -/
def fDictD : List V → Hp → VK → Prop := fun xs H Q => match xs with
  | [.ref a] => ∃ kvs, Rd H a (.dK kvs) ∧ ∀ p H1, H p = none → Same H H1 → H1 p = some (.dK kvs) → Q (.ref p) H1
  | _ => False
theorem call_fDictD {X : Cx} : CallR X (.type "dict") fDictD := by
  intro pins s σ H xs us Q I r h
  match xs, r, h with
  | [.ref a], r, ⟨kvs, h1, h2⟩ =>
    obtain ⟨u, eu, rx⟩ := vals1 r
    subst eu
    cases rx
    exact d_copyOf I h1 fun p s' np I' => ⟨.ref p, _, I', rfl, h2 p _ np (same_new np) upd_same⟩
end Fx
namespace Fx
open PySem PySem.Spec PyProof.Rows L2
section
variable {X : Cx} {K : PySem.W.Frag}
theorem ix_fxK (h : X.K = K) : IxR X (fIx K) := h ▸ ix_fx
theorem call_fLenK (h : X.K = K) : CallR X (.builtin "len") (fLen K) := h ▸ call_fLen
theorem op_fAddK (h : X.K = K) : OpR X (binaryOp .Add) (fAdd K) := h ▸ op_fAdd
theorem sl_fxK (h : X.K = K) : SlR X (fSl K) := h ▸ sl_fx
theorem op_fEqK (hu : X.A.units + 64 < cLine) (h : X.K = K) : OpR X (compareOp .Eq) (fEq K false) := h ▸ op_fEq hu
theorem op_fNeK (hu : X.A.units + 64 < cLine) (h : X.K = K) : OpR X (compareOp .NotEq) (fEq K true) := h ▸ op_fNe hu
theorem op_fInK' (h : X.K = K) : OpR X (compareOp .In) (fIn K false) := h ▸ op_fIn
end
end Fx
namespace Fx
open PySem PySem.Spec PyProof.Rows L2
section
variable {X : Cx} {o e f : Expr} {apos cpos : Pos} {td ty tx : TE}
/-- sum of a list of whole numbers -/
def fSum : List V → Hp → VK → Prop := fun xs H Q => match xs with
  | [.ref a] => ∃ ns : List Int, H a = some (.lst (ns.map V.int)) ∧ Q (.int ns.sum) H
  | _ => False
theorem call_fSum (hc : X.calm = true) : CallR X (.builtin "sum") fSum := by
  intro pins s σ H xs us Q I r h
  match xs, r, h with
  | [.ref a], r, ⟨ns, h1, h2⟩ => exact cr_sum hc pins s σ H _ us Q I r ⟨a, ns, rfl, SqL.of h1, h2⟩
/-- d.get(k, x) -/
def fGetD (td ty tx : TE) : TE := fun σ H Q => td σ H fun x H1 => match x with
  | .ref a => (∃ kvs, Rd H1 a (.dK kvs)) ∧ ty σ H1 fun y H2 => tx σ H2 fun z H3 => match keyV y with
    | some k => ∃ kvs, Rd H3 a (.dK kvs) ∧ Q ((valV kvs k).getD z) H3
    | none => False
  | _ => False
theorem pe_getD (hu : X.A.units + 1 < cLine) (ho : PE X o td) (he : PE X e ty) (hf : PE X f tx) (m : M2 X o "get" apos e f cpos) : PE X (.Call (.Attribute o "get" apos) [e, f] [] cpos) (fGetD td ty tx) :=
  pe_wk (pe_dget2 hu (pe_clos ho) (pe_clos he) (pe_clos hf) m) fun σ H Q q => ⟨_, q, fun x H1 q => by
    split at q
    · rename_i a
      obtain ⟨⟨kvs, hd⟩, q⟩ := q
      exact ⟨a, rfl, .inl ⟨kvs, hd⟩, _, q, fun y H2 q => ⟨_, q, fun z H3 q => by
        split at q
        · obtain ⟨kvs', hd', q⟩ := q
          exact ⟨_, .inl ⟨kvs', _, hd', keyV_kV (by assumption), rfl⟩, q⟩
        · exact q.elim⟩⟩
    · exact q.elim⟩
end
/-! ### comprehensions of dicts -/
def Dc (J : It) (g : TG) (tt : TT) (tk tv : TE) (vs : List Nat) (σ : L2.St) (H1 : Hp) (D : Addr) (Q : VK) : Prop := ∃ W : Nat → Nat → Hp → Prop, (∃ m, W 0 m (upd H1 D (.dK []))) ∧ ∀ i m H, W i m H →
  (J.stop i H ∧ Q (.ref D) H) ∨ (J.go i H ∧ ∃ Nx : Hp → Prop, (∀ H', Nx H' → ∃ m', m' < m ∧ W (i + 1) m' H') ∧ ∀ x H', J.yld i H x H' → g x (wipe σ vs) H' fun σ2 H2 => wipe σ2 vs = wipe σ vs ∧ tt σ2 H2 fun b H3 =>
    if b = true then tk σ2 H3 fun y H4 => tv σ2 H4 fun z H5 => ∃ kvs k, y = kV k ∧ H5 D = some (.dK kvs) ∧ kvs.length < sizeLine ∧ Nx (upd H5 D (.dK (putK kvs k z))) else Nx H3)
theorem dc_ {wi : TI} {g : TG} {tt : TT} {tk tv : TE} {vs : List Nat} {σ : L2.St} {H : Hp} {Q : VK} (h : wi σ H fun J H1 => ∀ D, H1 D = none → Dc J g tt tk tv vs σ H1 D Q) : tDc wi g tt tk tv vs σ H Q := h
theorem dcx_tup {K : PySem.W.Frag} {a : Addr} {xs : List V} {g : TG} {tt : TT} {tk tv : TE} {vs : List Nat} {σ : L2.St} {H1 : Hp} {D : Addr} {Q : VK} (Pv : Nat → Hp → Prop) (h0 : Pv 0 (upd H1 D (.dK []))) (hl : ∀ i H, i ≤ xs.length → Pv i H → SqT K H a xs)
    (hs : ∀ i x H, xs[i]? = some x → Pv i H → g x (wipe σ vs) H fun σ2 H2 => wipe σ2 vs = wipe σ vs ∧ tt σ2 H2 fun b H3 =>
      if b = true then tk σ2 H3 fun y H4 => tv σ2 H4 fun z H5 => ∃ kvs k, y = kV k ∧ H5 D = some (.dK kvs) ∧ kvs.length < sizeLine ∧ Pv (i + 1) (upd H5 D (.dK (putK kvs k z))) else Pv (i + 1) H3) (hd : ∀ H, Pv xs.length H → Q (.ref D) H) : Dc (Itt K a) g tt tk tv vs σ H1 D Q :=
  dc_tup Pv h0 hl hs hd
end Fx
namespace Fx
open PySem PySem.Spec PyProof.Rows L2
def iEither (i1 i2 : TI) : TI := fun σ H R => i1 σ H R ∨ i2 σ H R
theorem pi_either {X : Cx} {tg e : Expr} {i1 i2 : TI} (h1 : PI X tg e i1) (h2 : PI X tg e i2) : PI X tg e (iEither i1 i2) := ⟨fun pins s σ H R I h => h.elim (h1.run pins s σ H R I) (h2.run pins s σ H R I)⟩
end Fx
namespace Fx
open PySem PySem.Spec PyProof.Rows L2
theorem lcx_tup {K : PySem.W.Frag} {a : Addr} {xs : List V} {g : TG} {tt : TT} {te : TE} {vs : List Nat} {σ : L2.St} {H1 : Hp} {D : Addr} {Q : VK} (Pv : Nat → Hp → Prop) (h0 : Pv 0 (upd H1 D (.lst []))) (hl : ∀ i H, i ≤ xs.length → Pv i H → SqT K H a xs)
    (hs : ∀ i x H, xs[i]? = some x → Pv i H → g x (wipe σ vs) H fun σ2 H2 => wipe σ2 vs = wipe σ vs ∧ tt σ2 H2 fun b H3 =>
      if b = true then te σ2 H3 fun y H4 => ∃ acc, H4 D = some (.lst acc) ∧ acc.length < sizeLine ∧ Pv (i + 1) (upd H4 D (.lst (acc ++ [y]))) else Pv (i + 1) H3) (hd : ∀ H, Pv xs.length H → Q (.ref D) H) : Lc (Itt K a) g tt te vs σ H1 D Q :=
  lc_it walk_tup Pv h0 hl (fun i x H H' hi p y => by
    obtain ⟨rfl, e⟩ := y
    exact hs i x _ e p) hd
end Fx
namespace Fx
open PySem PySem.Spec PyProof.Rows L2
/-- tuple(list) -/
def fTupOf : List V → Hp → VK → Prop := fun xs H Q => match xs with
  | [.ref p] => ∃ ys, H p = some (.lst ys) ∧ ∀ l H1, H l = none → Same H H1 → H1 l = some (.tup ys) → Q (.ref l) H1
  | _ => False
theorem call_fTupOf {X : Cx} : CallR X (.type "tuple") fTupOf := by
  intro pins s σ H xs us Q I r h
  match xs, r, h with
  | [.ref p], r, ⟨ys, h1, h2⟩ => exact call_tuple_of pins s σ H _ us Q I r ⟨p, ys, rfl, .inl ⟨SqL.of h1, fun l nl => h2 l _ nl (same_new nl) upd_same⟩⟩
end Fx

set_option Elab.async false
set_option linter.all false
set_option maxRecDepth 100000
set_option maxHeartbeats 1000000
/-! Zp: zip of a list and a tuple. -/
namespace Fx
open PySem PySem.Spec PyProof.Rows L2
/-- the list at a and the tuple at b as they stand at each turn -/
def ItzM (K : PySem.W.Frag) (a b : Addr) : It where
  go i H := ∃ (xs ys : List V) (x y : V), SqL K H a xs ∧ SqT K H b ys ∧ xs[i]? = some x ∧ ys[i]? = some y
  yld i H v H' := ∃ T x y, v = .ref T ∧ H T = none ∧ H' = upd H T (.tup [x, y]) ∧ (∀ xs, SqL K H a xs → xs[i]? = some x) ∧ ∀ ys, SqT K H b ys → ys[i]? = some y
  stop i H := ∃ xs ys : List V, SqL K H a xs ∧ SqT K H b ys ∧ i ≤ xs.length ∧ i ≤ ys.length ∧ (i = xs.length ∨ i = ys.length)
def StM (zp ti to j1 j2 a b : Addr) (i : Nat) (h : Heap) : Prop := IsZip h zp ti to .none ∧ IsPair h ti (.ref j1) (.ref j2) ∧ (∃ x y, IsPair h to x y) ∧ h.IsListIter j1 a i ∧ h.IsTupleIter j2 b i
theorem sepM {zp ti to j1 j2 a b : Addr} (D : ZipApart zp ti to j1 j2 a b) : ZipSep2 zp ti to j1 j2 [j1, a] [j2, b] := by
  constructor <;> simp [D.TIz, D.TOz, D.TITO, D.TIi1, D.TIi2, Ne.symm D.i1z, Ne.symm D.i2z, Ne.symm D.l1z, Ne.symm D.l2z, D.TOi1, D.TOi2, Ne.symm D.l1TO, Ne.symm D.l2TO, D.i12, Ne.symm D.i12, D.l1i2, D.l2i1, Ne.symm D.l1i2, Ne.symm D.l2i1]
theorem turn_zipM {P : Program} {w : World} {K : PySem.W.Frag} {el : List Expr} {kx : Nat} {tp : Pos} {a b zp ti to j1 j2 : Addr} (D : ZipApart zp ti to j1 j2 a b) : Turn P w K (.Tuple el kx tp) (ItzM K a b) [zp, ti, to, j1, j2] zp (StM zp ti to j1 j2 a b) where
  mem := List.mem_cons_self ..
  obj := fun i h ⟨g1, g2, ⟨x, y, g3⟩, ⟨o1, g4, _, g5⟩, ⟨o2, g6, _, g7⟩⟩ q hq => by
    simp only [List.mem_cons, List.not_mem_nil, or_false] at hq
    rcases hq with rfl | rfl | rfl | rfl | rfl
    · exact ⟨_, g1, fun v e => by cases e⟩
    · exact ⟨_, g2, fun v e => by cases e⟩
    · exact ⟨_, g3, fun v e => by cases e⟩
    · exact ⟨o1, g4, fun v e => by rw [g5] at e; cases e⟩
    · exact ⟨o2, g6, fun v e => by rw [g7] at e; cases e⟩
  keep := fun i h h' ⟨g1, g2, ⟨x, y, g3⟩, g4, g5⟩ k => ⟨k zp (by simp) _ g1, k ti (by simp) _ g2, ⟨x, y, k to (by simp) _ g3⟩, g4.at fun o e => k j1 (by simp) o e, g5.at fun o e => k j2 (by simp) o e⟩
  item := by
    intro X eP ew eK ec i pins s σ H E I hf st hg
    cases eP; cases ew; cases eK
    obtain ⟨g1, g2, ⟨x0, y0, g3⟩, g4, g5⟩ := st
    obtain ⟨xs, ys, x, y, sx, sy, ex, ey⟩ := hg
    obtain ⟨its, rv, pl, _⟩ := I.list sx
    obtain ⟨jts, rw2, pt, _⟩ := I.tuple sy
    obtain ⟨u, hu, ru⟩ := rv.get ex
    obtain ⟨v, hv, rv'⟩ := rw2.get ey
    have hh : X.A.in1.handled = none := I.ok.hd ec
    have lz : zp < s.heap.objs.size := Heap.lt_size g1
    have n1 : i < its.toArray.size := by
      have := (List.getElem?_eq_some_iff.mp hu).1
      simpa using this
    have n2 : i < jts.toArray.size := by
      have := (List.getElem?_eq_some_iff.mp hv).1
      simpa using this
    refine wpAny_pyNext_zipD2_item (sepM D) (Draws.list hh j1 a D.l1i1 its.toArray) (Draws.tuple hh j2 b D.l2i2 jts.toArray) g1 g2 g3 ⟨g4, pl.isList⟩ ⟨g5, pt⟩ n1 n2 fun u' v' hn tk e1 e2 kz ko st1 st2 hT hsz hk => ?_
    have eu : u' = u := by
      have e1 : its.toArray[i]? = some u' := e1
      rw [List.getElem?_toArray, hu] at e1
      exact (Option.some.inj e1).symm
    have ev : v' = v := by
      have e2 : jts.toArray[i]? = some v' := e2
      rw [List.getElem?_toArray, hv] at e2
      exact (Option.some.inj e2).symm
    subst eu ev
    refine ⟨_, rfl, wpAny_letOwnedTupleGo_zip (s := { s with heap := hn, toks := tk }) kz fun hm kz2 sb => ?_⟩
    have hT2 : hm.get? s.heap.objs.size = some { cls := .type "tuple", data := .seq #[u', v'] } := (sb.2 _ (Nat.ne_of_gt lz)).trans hT
    have new : ObjOk X.prog X.w (upd H s.heap.objs.size (.tup [x, y])) hm s.heap.objs.size (.tup [x, y]) := ⟨by show 2 ≤ sizeLine; decide, [u', v'], .cons ru (.cons rv' .nil), ⟨_, hT2, rfl, _, rfl⟩⟩
    have I1 : Inv X pins σ (upd H s.heap.objs.size (.tup [x, y])) { s with heap := hm, toks := tk } :=
      I.turnedNew (ch := [zp, ti, to, j1, j2]) (fun q o hq e => (sb.2 q (fun z => hq (by simp [z]))).trans (hk q o (fun z => hq (by simp [z])) (fun z => hq (by simp [z])) (fun z => hq (by simp [z])) (fun z => hq (by simp [z])) e)) hf (Nat.le_refl _) new
    refine ⟨.ref s.heap.objs.size, _, I1, rfl, ⟨_, x, y, rfl, I.hok.fresh (Nat.le_refl _), rfl, fun l hl => by rw [I.list_inj hl sx]; exact ex, fun l hl => by rw [I.tuple_inj hl sy]; exact ey⟩, ⟨kz2, ?_, ⟨u', v', ?_⟩, ?_, ?_⟩, fun q hq => ?_⟩
    · exact (sb.2 _ D.TIz).trans (hk _ _ D.TIz D.TITO D.TIi1 D.TIi2 g2)
    · exact (sb.2 _ D.TOz).trans ko
    · exact st1.1.at fun o e => (sb.2 _ D.i1z).trans e
    · exact st2.1.at fun o e => (sb.2 _ D.i2z).trans e
    · have hlt : q < s.heap.objs.size := by
        simp only [List.mem_cons, List.not_mem_nil, or_false] at hq
        rcases hq with rfl | rfl | rfl | rfl | rfl
        · exact lz
        · exact Heap.lt_size g2
        · exact Heap.lt_size g3
        · obtain ⟨_, e, _⟩ := g4; exact Heap.lt_size e
        · obtain ⟨_, e, _⟩ := g5; exact Heap.lt_size e
      rw [upd_ne (Nat.ne_of_lt hlt)]
      exact (hf q hq).1
  done := by
    intro X eP ew eK ec i pins s σ H E I hf st hg
    cases eP; cases ew; cases eK
    obtain ⟨g1, g2, ⟨x0, y0, g3⟩, g4, g5⟩ := st
    obtain ⟨xs, ys, sx, sy, l1, l2, l3⟩ := hg
    obtain ⟨its, rv, pl, _⟩ := I.list sx
    obtain ⟨jts, rw2, pt, _⟩ := I.tuple sy
    have hh : X.A.in1.handled = none := I.ok.hd ec
    have m1 : its.toArray.size = xs.length := by rw [rv.length]; simp
    have m2 : jts.toArray.size = ys.length := by rw [rw2.length]; simp
    exact wpAny_pyNext_zipD2_end (sepM D) (Draws.list hh j1 a D.l1i1 its.toArray) (Draws.tuple hh j2 b D.l2i2 jts.toArray) g1 g2 g3 ⟨g4, pl.isList⟩ ⟨g5, pt⟩ (by omega) (by omega) (by omega) fun hn tk hk =>
      ⟨rfl, I.turnedL (ch := [zp, ti, to, j1, j2]) (fun q o hq e => hk q o (fun z => hq (by simp [z])) (fun z => hq (by simp [z])) (fun z => hq (by simp [z])) (fun z => hq (by simp [z])) e) hf⟩
  self := fun A i s Q E st q => wpAny_pyIter_zip st.1 q
/-- for .. in zip(list, tuple) -/
def iZipM (K : PySem.W.Frag) (ta : TA) : TI := fun σ H R => ta σ H fun vs H1 => match vs with
  | [.ref a, .ref b] => ∃ xs ys, SqL K H1 a xs ∧ SqT K H1 b ys ∧ R (ItzM K a b) H1
  | _ => False
theorem pi_zipM {X : Cx} {e e2 : Expr} {ta : TA} {p pos tpos : Pos} {elts : List Expr} {kk : Nat} (hg : Gl X "zip") (hm : X.mg "zip" = none) (ha : PA X [e, e2] ta)
    (hs : starEach [e, e2] X.env = (false, eval e X.env) :: starEach [e2] X.env := by rfl) (hpl : (backTo pos (starEach [e2] X.env)).any (·.1) = false := by rfl) :
    PI X (.Tuple elts kk tpos) (.Call (.Name "zip" p) [e, e2] [] pos) (iZipM X.K ta) := by
  refine ⟨fun pins s σ H R I h => Call_ (ld_blt I hg hm PyProof.Rows.boot_zip (PyProof.Rows.callWith_type1 (thn (ha.run pos pins s σ H _ I h) fun us s1 ⟨vs, H1, I1, r1, q1⟩ => ?_) hs hpl))⟩
  dsimp only at q1
  split at q1
  · rename_i a b
    obtain ⟨xs, ys, sx, sy, q⟩ := q1
    cases r1 with
    | cons r t =>
     cases t with
     | cons r' t =>
      cases t
      cases r
      cases r'
      obtain ⟨its, rv, pl, _⟩ := I1.list sx
      obtain ⟨jts, rw2, pt, _⟩ := I1.tuple sy
      obtain ⟨o1, ho1, _⟩ := id pl.isList
      obtain ⟨o2, ho2, _⟩ := id pt
      have five : ∀ q, q ∈ [s1.heap.objs.size + 4, s1.heap.objs.size + 2, s1.heap.objs.size + 3, s1.heap.objs.size, s1.heap.objs.size + 1] → FpOk X pins H1 q := fun q hq => by
        have : s1.heap.objs.size ≤ q := by
          simp only [List.mem_cons, List.not_mem_nil, or_false] at hq
          omega
        exact I1.fpOk this (I1.hok.fresh this)
      refine zip_begins2 (begins_list a its.toArray) (begins_tuple b jts.toArray) pl.isList pt fun hn k1 k2 k3 k4 k5 _ hk => wpAny_pyIter_zip k1 ?_
      exact ⟨_, _, _, _, H1, rfl, I1.kept (t' := s1.toks) hk, turn_zipM (PySem.W.ktu_apart s1.heap.objs.size a b (Heap.lt_size ho1) (Heap.lt_size ho2)), ⟨k1, k2, ⟨_, _, k3⟩, ⟨_, k4, rfl, rfl⟩, ⟨_, k5, rfl, rfl⟩⟩, five, q⟩
  · exact q1.elim
/-- its loop -/
theorem loop_zipM {K : PySem.W.Frag} {a b : Addr} {xs ys : List V} {g : TG} {tb : TS} {D : Ends} {σ : L2.St} {H : Hp} (hl : xs.length = ys.length) (Pv : Nat → L2.St → Hp → Prop) (h0 : Pv 0 σ H) (hq : ∀ i σ H, Pv i σ H → SqL K H a xs ∧ SqT K H b ys)
    (hs : ∀ (i : Nat) (x y : V) (T : Addr) (σ : L2.St) (H : Hp), xs[i]? = some x → ys[i]? = some y → Pv i σ H → H T = none → g (.ref T) σ (upd H T (.tup [x, y])) fun σ2 H2 => tb { D with nx := Pv (i + 1), ct := Pv (i + 1), bk := D.nx } σ2 H2) (hd : ∀ σ H, Pv xs.length σ H → D.nx σ H) : Loop (ItzM K a b) g tb D σ H := by
  refine ⟨fun i m σ H => m = xs.length - i ∧ i ≤ xs.length ∧ Pv i σ H, ⟨_, rfl, Nat.zero_le _, h0⟩, fun i m σ H ⟨em, hi, hp⟩ => ?_⟩
  subst em
  obtain ⟨qx, qy⟩ := hq i σ H hp
  rcases Nat.lt_or_ge i xs.length with lt | ge
  · refine .inr ⟨⟨xs, ys, xs[i], ys[i]'(by omega), qx, qy, List.getElem?_eq_getElem _, List.getElem?_eq_getElem _⟩, Pv (i + 1), fun σ' H' p' => ⟨xs.length - (i + 1), by omega, rfl, lt, p'⟩, fun v H' ⟨T, x', y', e1, e2, e3, f1, f2⟩ => ?_⟩
    subst e1 e3
    exact hs i x' y' T σ H (f1 xs qx) (f2 ys qy) hp e2
  · have e : i = xs.length := by omega
    subst e
    exact .inl ⟨⟨xs, ys, qx, qy, Nat.le_refl _, by omega, .inl rfl⟩, hd σ H hp⟩
/-! ### dicts of the module whose values are tuples of scalars -/
def EntT (K : PySem.W.Frag) (d : Addr) : Str × Option (List V) → Prop
  | (z, none) => PySem.W.nsIn K d z = some none
  | (z, some xs) => ∃ a, PySem.W.nsIn K d z = some (some (.ref a)) ∧ ∀ H, SqT K H a xs
theorem entt_none {K : PySem.W.Frag} {d : Addr} {z : Str} (h : PySem.W.nsIn K d z = some none) : EntT K d (z, none) := h
theorem entt_tup {K : PySem.W.Frag} {d a : Addr} {z : Str} {xs : List V} {od : Option Addr} {its : Array Value} {n : Nat} {sl : Array (Option Value)} (h1 : PySem.W.nsIn K d z = some (some (.ref a))) (h2 : K.lookup a = some ⟨.type "tuple", od, .seq its n, sl⟩) (h3 : absVs its.toList = some xs) (h4 : its.size ≤ 1000) : EntT K d (z, some xs) :=
  ⟨a, h1, fun _ => .inr ⟨_, its, n, h2, rfl, rfl, Nat.le_trans h4 (by decide), absVs_rel h3⟩⟩
structure DTAt (K : PySem.W.Frag) (w : World) (d : Addr) (ks : List (Str × Option (List V))) : Prop where
  ex : ∃ es n, KDict K w d es n
  en : ∀ p ∈ ks, EntT K d p
def GDictT (K : PySem.W.Frag) (w : World) (mg : Str → Option Value) (x : Str) (ks : List (Str × Option (List V))) : Prop := ∃ d, mg x = some (.ref d) ∧ DTAt K w d ks
structure GDictTF (K : PySem.W.Frag) (w : World) (x : Str) (ks : List (Str × Option (List V))) : Prop where
  ex : ∃ d, PySem.W.nsIn K mainGlobals x = some (some (.ref d)) ∧ DTAt K w d ks
theorem GDictTF.of {K : PySem.W.Frag} {w : World} {x : Str} {ks : List (Str × Option (List V))} {d : Addr} {es : Array DictEntry} {n : Nat} (h1 : PySem.W.nsIn K mainGlobals x = some (some (.ref d))) (h2 : K.lookup d = some ⟨.type "dict", none, .dict es n, #[]⟩)
    (h3 : PySem.W.KeysLit w.params es.toList) (h4 : (d == sysModules) = false) (h5 : ∀ p ∈ ks, EntT K d p) : GDictTF K w x ks := ⟨d, h1, ⟨es, n, h2, h3, h4⟩, h5⟩
theorem GDictTF.get {K : PySem.W.Frag} {w : World} {mg : Str → Option Value} {x : Str} {ks : List (Str × Option (List V))} {h : Heap} (X : K.In h) (G : h.Ns mainGlobals mg) (F : GDictTF K w x ks) : GDictT K w mg x ks := by
  obtain ⟨d, h1, h2⟩ := F.ex
  exact ⟨d, PySem.W.mg_of X G h1, h2⟩
theorem entt_at {K : PySem.W.Frag} {d : Addr} {z : Str} {o : Option (List V)} : ∀ {ks : List (Str × Option (List V))}, (∀ p ∈ ks, EntT K d p) → ks.lookup z = some o → EntT K d (z, o)
  | [], _, h => by cases h
  | (y, p) :: ks, hk, h => by
    rw [List.lookup_cons] at h
    split at h
    · rename_i e
      cases h
      have e' := eq_of_beq e
      subst e'
      exact hk _ (List.mem_cons_self ..)
    · exact entt_at (fun q hq => hk q (List.mem_cons_of_mem _ hq)) h
def fGdT_ (K : PySem.W.Frag) (w : World) (ks : List (Str × Option (List V))) : TE := fun _ H Q => ∀ d, DTAt K w d ks → Q (.ref d) H
section
variable {X : Cx}
theorem fe_gdictT {x : Str} {pos : Pos} {ks : List (Str × Option (List V))} (hg : Gl X x) (h : GDictT X.K X.w X.mg x ks) (hd : (x == ("__debug__" : Str)) = false := by decide) : PE X (.Name x pos) (fGdT_ X.K X.w ks) := by
  obtain ⟨d, h, hs⟩ := h
  exact pe_wk (pe_glob hg h (v := .ref d) rfl hd) fun σ H Q q => q d hs
def fInDT (K : PySem.W.Frag) (w : World) : R2 := fun x y H Q => match x, y with
  | .str z, .ref d => ∃ ks o, DTAt K w d ks ∧ ks.lookup z = some o ∧ Q (.bl o.isSome) H
  | _, _ => False
theorem op_fInDT : OpR X (compareOp .In) (fInDT X.K X.w) := by
  intro pins s σ H x y v u Q I rx ry h
  match x, y, rx, ry, h with
  | .str z, .ref d, rx, ry, ⟨ks, o, D, e, q⟩ =>
    obtain ⟨es, n, kd⟩ := D.ex
    have en := entt_at D.en e
    cases o with
    | none => exact op_in_kd kd pins s σ H _ _ v u Q I rx ry ⟨z, none, rfl, rfl, en, q⟩
    | some xs =>
      obtain ⟨a, e0, _⟩ := en
      exact op_in_kd kd pins s σ H _ _ _ u Q I rx ry ⟨z, some (.ref a), rfl, rfl, e0, q⟩
def fIxDT (K : PySem.W.Frag) (w : World) : R2 := fun x y H Q => match x, y with
  | .ref d, .str z => ∃ ks xs, DTAt K w d ks ∧ ks.lookup z = some (some xs) ∧ ∀ a, (∀ H', SqT K H' a xs) → Q (.ref a) H
  | _, _ => False
theorem ix_fxDT : IxR X (fIxDT X.K X.w) := by
  intro e1 e2 pins s σ H x y v u Q I rx ry h hs
  match x, y, rx, ry, h with
  | .ref d, .str z, rx, ry, ⟨ks, xs, D, e, q⟩ =>
    obtain ⟨es, n, kd⟩ := D.ex
    obtain ⟨a, e0, r0⟩ := entt_at D.en e
    exact ix_kdict e1 e2 pins s σ H (.ref d) (.str z) v u Q I rx ry ⟨d, z, .ref a, rfl, rfl, ⟨es, n, .ref a, kd.at_, kd.lit, e0, rfl⟩, q a r0⟩ hs
end
end Fx
namespace Fx
open PySem PySem.Spec PyProof.Rows L2
section
variable {X : Cx} {o i e : Expr} {to ti te : TE} {tpos pos p1 p2 p3 : Pos} {k : Nat}
/-- xs[::-1] -/
def fRevL (K : PySem.W.Frag) (te : TE) : TE := fun σ H Q => te σ H fun x H1 => match x with
  | .ref a => ∃ xs, SqL K H1 a xs ∧ ∀ p H2, H1 p = none → Same H1 H2 → H2 p = some (.lst xs.reverse) → Q (.ref p) H2
  | _ => False
theorem fe_revL (he : PE X e te) : PE X (.Subscript e (.Slice none none (some (.UnaryOp .USub (.Constant (.int 1) k p1) p2)) p3) pos) (fRevL X.K te) :=
  pe_wk (pe_revL (pe_clos he)) fun σ H Q q => ⟨_, q, fun x H1 q => by
    split at q
    · rename_i a
      obtain ⟨xs, h, q⟩ := q
      exact ⟨a, xs, rfl, h, fun p np => q p _ np (same_new np) upd_same⟩
    · exact q.elim⟩
/-- del xs[i] -/
def sDelL (to ti : TE) : TS := fun D σ H => to σ H fun x H1 => ti σ H1 fun y H2 => match x, y with
  | .ref l, .int i => ∃ xs, ∃ n : Nat, H2 l = some (.lst xs) ∧ i = (n : Nat) ∧ n < xs.length ∧ n < 1000000 ∧ D.nx σ (upd H2 l (.lst (xs.eraseIdx n)))
  | _, _ => False
theorem fs_delL (ho : PE X o to) (hi : PE X i ti) : PS X (.Delete [.Subscript o i tpos] pos) (sDelL to ti) :=
  ps_wk (ps_delL (pe_clos ho) (pe_clos hi)) fun D σ H q => ⟨_, q, fun x H1 q => ⟨_, q, fun y H2 q => by
    split at q
    · obtain ⟨xs, n, h1, rfl, h2, h3, q⟩ := q
      refine ⟨_, xs, _, n, rfl, rfl, h1, by omega, by omega, ?_, q⟩
      unfold seqIndex?
      simp
      omega
    · exact q.elim⟩⟩
/-- for at, x in enumerate(xs) -/
def iEnum_ (K : PySem.W.Frag) (ta : TA) : TI := fun σ H R => ta σ H fun vs H1 => match vs with
  | [.ref a] => (∃ xs, SqL K H1 a xs) ∧ R (Ite K a) H1
  | _ => False
theorem pi_enum_ {ta : TA} {p pos tpos : Pos} {elts : List Expr} {kk : Nat} (hg : Gl X "enumerate") (hm : X.mg "enumerate" = none) (ha : PA X [e] ta) (hs : starEach [e] X.env = [(false, eval e X.env)] := by rfl) : PI X (.Tuple elts kk tpos) (.Call (.Name "enumerate" p) [e] [] pos) (iEnum_ X.K ta) :=
  ⟨fun pins s σ H R I h => (pi_enum hg hm (pa_clos ha) hs).run pins s σ H R I ⟨_, h, fun vs H1 q => by
    split at q
    · obtain ⟨⟨xs, h⟩, q⟩ := q
      exact ⟨_, xs, rfl, h, q⟩
    · exact q.elim⟩⟩
/-- list + list and the like in comprehensions over enumerate -/
theorem lcx_enum {K : PySem.W.Frag} {a : Addr} {xs : List V} {g : TG} {tt : TT} {te : TE} {vs : List Nat} {σ : L2.St} {H1 : Hp} {D : Addr} {Q : VK} (Pv : Nat → Hp → Prop) (h0 : Pv 0 (upd H1 D (.lst []))) (hl : ∀ i H, i ≤ xs.length → Pv i H → SqL K H a xs)
    (hs : ∀ (i : Nat) x T H H', xs[i]? = some x → Pv i H → H T = none → H' = upd H T (.tup [.int (i : Nat), x]) → g (.ref T) (wipe σ vs) H' fun σ2 H2 => wipe σ2 vs = wipe σ vs ∧ tt σ2 H2 fun b H3 =>
      if b = true then te σ2 H3 fun y H4 => ∃ acc, H4 D = some (.lst acc) ∧ acc.length < sizeLine ∧ Pv (i + 1) (upd H4 D (.lst (acc ++ [y]))) else Pv (i + 1) H3) (hd : ∀ H, Pv xs.length H → Q (.ref D) H) : Lc (Ite K a) g tt te vs σ H1 D Q :=
  lc_it walk_enum Pv h0 hl (fun i x H H' hi p y => by
    obtain ⟨T, u, v, e1, e2, e3, e4, e5⟩ := y
    cases e4
    subst e1
    exact hs i v T H H' e5 p e2 e3) hd
end
end Fx
namespace Fx
open PySem PySem.Spec PyProof.Rows L2
/-- a op1 b op2 c op3 d, as a test -/
def tChain3 (r1 r2 r3 : R2) (ta tb tc td : TE) : TT := fun σ H Q => ta σ H fun x H1 => tb σ H1 fun y H2 => r1 x y H2 fun v1 H3 => ∃ k, v1 = .bl k ∧ if k = true then tc σ H3 fun z H4 => r2 y z H4 fun v2 H5 => ∃ j, v2 = .bl j ∧ (if j = true then td σ H5 fun u H6 => r3 z u H6 fun v3 H7 => ∃ i, v3 = .bl i ∧ Q i H7 else Q false H5) else Q false H3
theorem pt_chain3 {X : Cx} {o1 o2 o3 : CmpOp} {r1 r2 r3 : R2} {a b c d : Expr} {ta tb tc td : TE} {pos : Pos} (h1 : OpR X (compareOp o1) r1) (h2 : OpR X (compareOp o2) r2) (h3 : OpR X (compareOp o3) r3) (ha : PE X a ta) (hb : PE X b tb) (hc : PE X c tc) (hd : PE X d td)
    (hm : lastMarks [o1, o2, o3] [b, c, d] = false := by with_unfolding_all rfl) : PT X (.Compare a [o1, o2, o3] [b, c, d] pos) (tChain3 r1 r2 r3 ta tb tc td) :=
  ⟨fun pins s σ H Q I h => isTrue_chain (thn (ha.run pins s σ H _ I h) fun v s1 ⟨x, H1, I1, e1, q1⟩ => test_link (thn (hb.run pins s1 σ H1 _ I1 q1) fun u s2 ⟨y, H2, I2, e2, q2⟩ =>
    thn (h1 pins s2 σ H2 x y v u _ I2 e1 e2 q2) fun t s3 ⟨z, H3, I3, e3, k, ek, q3⟩ => by
      subst ek
      cases e3
      refine wpAny_truthy_bool ?_
      cases k with
      | false => exact ite_ff ⟨H3, I3, q3⟩
      | true =>
        refine ite_tt (test_link (thn (hc.run pins s3 σ H3 _ I3 q3) fun v4 s4 ⟨z4, H4, I4, e4, q4⟩ => thn (h2 pins s4 σ H4 y z4 u v4 _ I4 e2 e4 q4) fun t5 s5 ⟨z5, H5, I5, e5, j, ej, q5⟩ => ?_))
        subst ej
        cases e5
        refine wpAny_truthy_bool ?_
        cases j with
        | false => exact ite_ff ⟨H5, I5, q5⟩
        | true =>
          refine ite_tt (test_last (thn (hd.run pins s5 σ H5 _ I5 q5) fun v6 s6 ⟨z6, H6, I6, e6, q6⟩ => thn (h3 pins s6 σ H6 z4 z6 v4 v6 _ I6 e4 e6 q6) fun t7 s7 ⟨z7, H7, I7, e7, i, ei, q7⟩ => ?_))
          subst ei
          cases e7
          exact wpAny_truthy_bool ⟨H7, I7, q7⟩)) hm⟩
end Fx
namespace Fx
open PySem PySem.Spec PyProof.Rows L2
theorem pg_tupK {X : Cx} {K : PySem.W.Frag} {es : List Expr} {k : Nat} {t : TGs} {n : Nat} {pos : Pos} (hK : X.K = K) (hc : X.calm = true) (h : PGs X es t) (hn : (assignEach es X.env).length = n := by rfl) (hst : (assignEach es X.env).findIdx? (·.1) = none := by rfl) : PG X (.Tuple es k pos) (gTup K n t) := hK ▸ pg_tup hc h hn hst
end Fx
namespace Fx
open PySem PySem.Spec PyProof.Rows L2
/-- what follows an expression is a word of its own -/
theorem cute_ {t : TE} {σ : L2.St} {H : Hp} {Q : VK} (h : ∀ N : VK, (∀ v H1, Q v H1 → N v H1) → t σ H N) : t σ H Q := h _ fun _ _ x => x
end Fx
namespace Fx
open PySem PySem.Spec PyProof.Rows L2
def fClear : V → List V → Hp → VK → Prop := fun x vs H Q => match x, vs with
  | .ref l, [] => match H l with
    | some (.lst _) => Q .non (upd H l (.lst []))
    | _ => False
  | _, _ => False
theorem mt_fClear {X : Cx} : MtR X "list.clear" fClear := by
  intro pins s σ H x xs v us Q I rx rs h
  unfold fClear at h
  split at h
  · split at h
    · exact mt_clear pins s σ H _ _ v us Q I rx rs ⟨_, _, rfl, rfl, by assumption, h⟩
    · exact h.elim
  · exact h.elim
end Fx

set_option Elab.async false
set_option linter.all false
set_option maxRecDepth 100000
set_option maxHeartbeats 1000000
/-! Hd: heads: what the top leaves, read off by one run of the kernel. -/
namespace Hd
open PySem PySem.Spec PyProof.Rows L2 Fx
/-! ### facts as tests -/
def opB (K : PySem.W.Frag) (C : Addr) : Bool := PySem.W.plainGet K C Str.empty && (PySem.W.hasDictIn K C && (PySem.W.plainOver K C && (decide (PySem.W.findIn K (.ref C) "__setattr__" = some (some (.builtin "object.__setattr__"))) &&
  (decide (PySem.W.findIn K (.ref C) "__class__" = some (some (.builtin "object.__class__"))) && (decide (PySem.W.mroIn K C (.type "object") = some true) && (PySem.W.makesIn K C && PySem.W.keepIn K (.ref C)))))))
theorem opB_ok {K : PySem.W.Frag} {C : Addr} (h : opB K C = true) : ClsFact K C := by
  simp only [opB, Bool.and_eq_true, decide_eq_true_eq] at h
  obtain ⟨h1, h2, h3, h4, h5, h6, h7, h8⟩ := h
  exact ⟨h1, h2, h3, h4, h5, h6, h7, h8⟩
/-- an exception class of the program -/
def exB (K : PySem.W.Frag) (C : Addr) : Bool := (match K.lookup C with
  | some ⟨.type t, _, .cls cd, sl⟩ => decide (t = "type") && (match cd.mro, sl.toList with
    | .ref D :: bm, [_, _, _, _, some (.builtin n), _] => decide (D = C) && (decide (n = "ValueError.__new__") && (!cd.hasDel && (cd.hasDict && PySem.HandSPX.refsVE bm)))
    | _, _ => false)
  | _ => false) && (decide (PySem.W.findIn K (.ref C) "__setattr__" = some (some (.builtin "object.__setattr__"))) && (decide (PySem.W.findIn K (.ref C) "__getattribute__" = some (some (.builtin "BaseException.__getattribute__"))) &&
  (decide (PySem.W.findIn K (.ref C) "__getattr__" = some none) && (decide (PySem.W.subIn K (.ref C) (.type "BaseException") = some true) && (decide (PySem.W.typeIn K (.ref C) = some (.type "type")) && (PySem.W.keepIn K (.ref C) && (PySem.W.hasDictIn K C &&
  (decide (PySem.W.findIn K (.ref C) "__class__" = some (some (.builtin "object.__class__"))) && decide (PySem.W.mroIn K C (.type "object") = some true)))))))))
theorem exB_ok {K : PySem.W.Frag} {C : Addr} (h : exB K C = true) : ExcFact K C := by
  obtain ⟨h0, h⟩ := Bool.and_eq_true_iff.mp h
  simp only [Bool.and_eq_true, decide_eq_true_eq] at h
  obtain ⟨h1, h2, h3, h4, h5, h6, h7, h8, h9⟩ := h
  refine ⟨?_, h1, h2, h3, h4, h5, h6, h7, h8, h9⟩
  split at h0
  · rename_i t dd cd sl lk
    obtain ⟨g1, g2⟩ := Bool.and_eq_true_iff.mp h0
    have g1 := of_decide_eq_true g1
    subst g1
    split at g2
    · rename_i D bm k0 k1 k2 k3 n k5 hm hs
      simp only [Bool.and_eq_true, decide_eq_true_eq, Bool.not_eq_true'] at g2
      obtain ⟨rfl, rfl, e3, e4, e5⟩ := g2
      obtain ⟨nm, bs, mro, ns, qn, hd, sn, sub, ab, col, del⟩ := cd
      obtain ⟨sl⟩ := sl
      dsimp only at hm hs e3 e4
      subst hm hs e3 e4
      exact ⟨_, _, _, _, _, _, _, _, _, _, _, _, _, _, _, lk, e5⟩
    · cases g2
  · cases h0
/-- the getter of a property -/
def pa (K : PySem.W.Frag) (C : Addr) (x : Str) : Addr := match PySem.W.recIn K (He.ma K C x) "property" with
  | some (.ref f :: _) => f
  | _ => 0
/-- a name that stands for nothing, an object, a number, a text, a tuple -/
inductive Fh where
  | glo (x : Str)
  | free (x : Str)
  | int (x : Str) (i : Int)
  | str (x z : Str)
  | tup (x : Str) (vs : List V)
  | cls (x : Str)
  | exc (x : Str)
  | noat (x f : Str)
  | sub (x y : Str) (b : Bool)
  | kit (x y : Str) (b : Bool)
  | kio (x y : Str)
  | kib (n : String) (y : Str)
  | kob (x : Str) (n : String)
  | obj
  | ne (x y : Str)
  | keep (x : Str)
  | meth (x m : Str)
  | init (x : Str)
  | prop (x m : Str)
  | dict (x : Str) (ks : List (Str × Option V))
  | dicT (x : Str) (ks : List (Str × Option (List V)))
def entB (K : PySem.W.Frag) (d : Addr) : Str × Option V → Bool
  | (z, none) => He.eqO (PySem.W.nsIn K d z) (some none)
  | (z, some v) => match PySem.W.nsIn K d z with
    | some (some u) => He.relB v u
    | _ => false
def tupAt (K : PySem.W.Frag) (a : Addr) (vs : List V) : Bool := match K.lookup a with
  | some ⟨.type c, _, .seq its _, _⟩ => decide (c = "tuple") && (decide (its.size ≤ 1000) && He.relAll vs its.toList)
  | _ => false
def enTB (K : PySem.W.Frag) (d : Addr) : Str × Option (List V) → Bool
  | (z, none) => He.eqO (PySem.W.nsIn K d z) (some none)
  | (z, some vs) => match PySem.W.nsIn K d z with
    | some (some (.ref a)) => tupAt K a vs
    | _ => false
def dicB (K : PySem.W.Frag) (d : Addr) : Bool := (match K.lookup d with
  | some ⟨.type c, none, .dict _ _, sl⟩ => decide (c = "dict") && decide (sl.toList.length = 0)
  | _ => false) && !(d == sysModules)
open He (ga ma eqO)
def Fh.ok (K : PySem.W.Frag) : Fh → Bool
  | .glo x => eqO (PySem.W.nsIn K mainGlobals x) (some (some (.ref (ga K x))))
  | .free x => eqO (PySem.W.nsIn K mainGlobals x) (some none)
  | .int x i => (match PySem.W.nsIn K mainGlobals x with
    | some (some u) => He.relB (.int i) u
    | _ => false)
  | .str x z => (match PySem.W.nsIn K mainGlobals x with
    | some (some u) => He.relB (.str z) u
    | _ => false)
  | .tup x vs => tupAt K (ga K x) vs
  | .cls x => opB K (ga K x)
  | .exc x => exB K (ga K x)
  | .noat x f => eqO (PySem.W.findIn K (.ref (ga K x)) f) (some none)
  | .sub x y b => decide (PySem.W.subIn K (.ref (ga K x)) (.ref (ga K y)) = some b)
  | .kit x y b => decide (PySem.W.kitOne K (.ref (ga K x)) (.ref (ga K y)) = some b)
  | .kio x y => decide (PySem.W.kitOne K (.ref (ga K x)) (.ref (ga K y)) = some (decide (ga K x = ga K y)))
  | .kib n y => decide (PySem.W.kitOne K (.type n) (.ref (ga K y)) = some false)
  | .kob x n => decide (PySem.W.kitOne K (.ref (ga K x)) (.type n) = some false)
  | .obj => decide (PySem.W.specialIn K (.builtin "object.__class__") "__get__" = some (some (.builtin "getset_descriptor.__get__"))) && decide (PySem.W.takesIn K (.builtin "object.__class__") = some true)
  | .ne x y => decide (ga K x ≠ ga K y)
  | .keep x => PySem.W.keepIn K (.ref (ga K x))
  | .meth x m => eqO (PySem.W.findIn K (.ref (ga K x)) m) (some (some (.ref (ma K (ga K x) m)))) && (PySem.W.keepIn K (.ref (ma K (ga K x) m)) && PySem.W.isFn K (.ref (ma K (ga K x) m)))
  | .init x => eqO (PySem.W.findIn K (.ref (ga K x)) "__init__") (some (some (.ref (ma K (ga K x) "__init__")))) && (PySem.W.keepIn K (.ref (ma K (ga K x) "__init__")) && decide (PySem.W.typeIn K (.ref (ma K (ga K x) "__init__")) = some (.type "function")))
  | .prop x m => eqO (PySem.W.findIn K (.ref (ga K x)) m) (some (some (.ref (ma K (ga K x) m)))) && (decide (PySem.W.specialIn K (.ref (ma K (ga K x) m)) "__get__" = some (some (.builtin "property.__get__"))) && (decide (PySem.W.takesIn K (.ref (ma K (ga K x) m)) = some true) &&
    ((match PySem.W.recIn K (ma K (ga K x) m) "property" with
      | some (.ref _ :: _) => true
      | _ => false) && PySem.W.keepIn K (.ref (pa K (ga K x) m)))))
  | .dict x ks => dicB K (ga K x) && ks.all (entB K (ga K x))
  | .dicT x ks => dicB K (ga K x) && ks.all (enTB K (ga K x))
/-! ### functions -/
inductive At_ where
  | glo (x : Str)
  | meth (x m : Str)
  | prop (x m : Str)
def At_.ad (K : PySem.W.Frag) : At_ → Addr
  | .glo x => ga K x
  | .meth x m => ma K (ga K x) m
  | .prop x m => pa K (ga K x) m
structure Df where
  at_ : At_
  name : Str
  qual : Str
  st : Stmt
abbrev FV : Type := Option (Str × Str × Arguments × FuncBody × Scope × Addr × List (Str × Addr) × Value × Addr)
def fv (K : PySem.W.Frag) (a : Addr) : FV := match K.lookup a with
  | some o => match o.data with
    | .func g => some (g.name, g.qualname, g.params, g.body, g.scope, g.globals, g.closure, g.defaults, g.builtins)
    | _ => none
  | none => none
def fc (K : PySem.W.Frag) (a : Addr) (q : Str) : Bool := match K.lookup a with
  | some o => match o.data with
    | .func g => PySem.W.codeIn K g.code q
    | _ => false
  | none => false
def Df.val (d : Df) : FV := some (d.name, d.qual, defArgs d.st, .stmts (defBody d.st), defScope d.st, mainGlobals, [], .none, builtinsNs)
theorem fv_ok {K : PySem.W.Frag} {a : Addr} {d : Df} (e : fv K a = d.val) (c : fc K a d.qual = true) :
    ∃ oc od sl kV dc pm an cd ct, K.lookup a = some ⟨oc, od, .func (PySem.W.fnOf d.name d.qual (defArgs d.st) (defBody d.st) (defScope d.st) .none kV dc pm an cd ct), sl⟩ ∧ PySem.W.codeIn K cd d.qual = true := by
  unfold fv at e
  unfold fc at c
  split at e
  · rename_i o lk
    rw [lk] at c
    obtain ⟨oc, od, dt, sl⟩ := o
    dsimp only at e c
    split at e
    · rename_i g
      obtain ⟨m1, m2, m3, m4, m5, m6, m7, m8, m9, m10, m11, m12, m13, m14, m15⟩ := g
      unfold Df.val at e
      simp only [Option.some.injEq, Prod.mk.injEq] at e
      obtain ⟨g1, g2, g3, g4, g5, g6, g7, g8, g9⟩ := e
      subst g1 g2 g3 g4 g5 g6 g7 g8 g9
      exact ⟨oc, od, sl, m9, m10, m11, m12, m13, m14, lk, c⟩
    · cases e
  · cases e
/-! ### dicts: their keys -/
def keyT (e : DictEntry) : Int × Option Str := (e.hash, match e.key with | .str x _ => some x | _ => none)
def dk (K : PySem.W.Frag) (d : Addr) : List (Int × Option Str) := match K.lookup d with
  | some o => match o.data with
    | .dict es _ => es.toList.map keyT
    | _ => []
  | none => []
theorem keys_lit {P : Params} : ∀ {es : List DictEntry} {ks : List Str}, es.map keyT = ks.map (fun z => (PyData.keyHash P z, some z)) → PySem.W.KeysLit P es
  | [], _, _ => trivial
  | e :: es, [], h => by cases h
  | e :: es, k :: ks, h => by
    rw [List.map_cons, List.map_cons] at h
    obtain ⟨h1, h2⟩ := List.cons.inj h
    unfold keyT at h1
    obtain ⟨h3, h4⟩ := Prod.mk.inj h1
    refine ⟨?_, keys_lit h2⟩
    split at h4
    · rename_i x t ek
      cases h4
      exact ⟨k, t, ek, h3⟩
    · cases h4
/-! ### the Hook -/
/-- what these objects reach in n steps, front by front -/
def asF (g : Addr → Option Obj) : Nat → List Addr → List Addr
  | 0, fr => fr
  | n + 1, fr => fr ++ asF g n (fr.flatMap fun a => match g a with
    | some o => He.refsD o
    | none => [])
/-- what these names of the module reach -/
def asN (g : Addr → Option Obj) (n : Nat) (xs : List Str) : List Addr := mainGlobals :: asF g n (xs.map (He.ga (He.frG g [mainGlobals])))
abbrev Al : Type := Bool × List FV × List (List (Int × Option Str))
def obsK (fa : List Fh) (fn : List Df) (ds : List (Str × List Str)) (K : PySem.W.Frag) : Al := ((fa.all fun f => f.ok K) && fn.all fun d => fc K (d.at_.ad K) d.qual, fn.map fun d => fv K (d.at_.ad K), ds.map fun d => dk K (ga K d.1))
def valK (w : World) (fn : List Df) (ds : List (Str × List Str)) : Al := (true, fn.map Df.val, ds.map fun d => d.2.map fun z => (PyData.keyHash w.params z, some z))
def Says (fa : List Fh) (fn : List Df) (ds : List (Str × List Str)) (w : World) (K : PySem.W.Frag) : Prop := obsK fa fn ds K = valK w fn ds
def obsG (n : Nat) (xs : List Str) (fa : List Fh) (fn : List Df) (ds : List (Str × List Str)) (g : Addr → Option Obj) : Al := obsK fa fn ds (He.frG g (asN g n xs))
def hook (n : Nat) (xs : List Str) (fa : List Fh) (fn : List Df) (ds : List (Str × List Str)) : PySem.W.Hook where
  α := Al
  obs := fun s => obsG n xs fa fn ds s.heap.get?
  val := fun w => valK w fn ds
  says := fun w h => ∃ K : PySem.W.Frag, K.In h ∧ Says fa fn ds w K
  of := fun _ _ e => ⟨_, He.frG_in, e⟩
  keeps := fun _ _ _ ⟨K, hK, c⟩ k => ⟨K, PySem.W.Frag.In.keeps hK k, c⟩
theorem obsG_eq {n : Nat} {xs : List Str} {fa : List Fh} {fn : List Df} {ds : List (Str × List Str)} {g : Addr → Option Obj} {s : Shared} (h : ∀ a, g a = s.heap.get? a) : obsG n xs fa fn ds g = (hook n xs fa fn ds).obs s := by
  rw [funext h]; rfl
section
variable {fa : List Fh} {fn : List Df} {ds : List (Str × List Str)} {K : PySem.W.Frag} {w : World}
theorem Says.fact (c : Says fa fn ds w K) (i : Nat) {f : Fh} (h : fa[i]? = some f) : f.ok K = true := by
  have c1 : ((fa.all fun f => f.ok K) && fn.all fun d => fc K (d.at_.ad K) d.qual) = true := congrArg (fun z : Al => z.1) c
  exact List.all_eq_true.mp (Bool.and_eq_true_iff.mp c1).1 f (List.mem_of_getElem? h)
theorem Says.def_ (c : Says fa fn ds w K) (i : Nat) {d : Df} (h : fn[i]? = some d) : ∃ oc od sl kV dc pm an cd ct, K.lookup (d.at_.ad K) = some ⟨oc, od, .func (PySem.W.fnOf d.name d.qual (defArgs d.st) (defBody d.st) (defScope d.st) .none kV dc pm an cd ct), sl⟩ ∧ PySem.W.codeIn K cd d.qual = true := by
  have c1 : ((fa.all fun f => f.ok K) && fn.all fun d => fc K (d.at_.ad K) d.qual) = true := congrArg (fun z : Al => z.1) c
  have c2 : fn.map (fun d => fv K (d.at_.ad K)) = fn.map Df.val := congrArg (fun z : Al => z.2.1) c
  have e : (fn.map fun d => fv K (d.at_.ad K))[i]? = (fn.map Df.val)[i]? := by rw [c2]
  rw [List.getElem?_map, List.getElem?_map, h] at e
  exact fv_ok (Option.some.inj e) (List.all_eq_true.mp (Bool.and_eq_true_iff.mp c1).2 d (List.mem_of_getElem? h))
theorem Says.dic (c : Says fa fn ds w K) (i : Nat) {d : Str × List Str} (h : ds[i]? = some d) : dk K (ga K d.1) = d.2.map fun z => (PyData.keyHash w.params z, some z) := by
  have c2 : ds.map (fun d => dk K (ga K d.1)) = ds.map fun d => d.2.map fun z => (PyData.keyHash w.params z, some z) := congrArg (fun z : Al => z.2.2) c
  have e : (ds.map fun d => dk K (ga K d.1))[i]? = (ds.map fun d => d.2.map fun z => (PyData.keyHash w.params z, some z))[i]? := by rw [c2]
  rw [List.getElem?_map, List.getElem?_map, h] at e
  exact Option.some.inj e
/-! ### what the walks ask -/
theorem glo_ {x : Str} (h : (Fh.glo x).ok K = true) : PySem.W.nsIn K mainGlobals x = some (some (.ref (ga K x))) := He.eqO_ok h
theorem free_ {x : Str} (h : (Fh.free x).ok K = true) : PySem.W.nsIn K mainGlobals x = some none := He.eqO_ok h
theorem int_ {x : Str} {i : Int} (h : (Fh.int x i).ok K = true) : ∃ t, PySem.W.nsIn K mainGlobals x = some (some (.int i t)) := by
  have h' : (match PySem.W.nsIn K mainGlobals x with | some (some u) => He.relB (.int i) u | _ => false) = true := h
  split at h'
  · rename_i u e
    obtain ⟨t, rfl⟩ := He.relB_ok h'
    exact ⟨t, e⟩
  · cases h'
theorem str_ {x z : Str} (h : (Fh.str x z).ok K = true) : ∃ t, PySem.W.nsIn K mainGlobals x = some (some (.str z t)) := by
  have h' : (match PySem.W.nsIn K mainGlobals x with | some (some u) => He.relB (.str z) u | _ => false) = true := h
  split at h'
  · rename_i u e
    obtain ⟨t, rfl⟩ := He.relB_ok h'
    exact ⟨t, e⟩
  · cases h'
theorem tupAt_ok {a : Addr} {vs : List V} (h : tupAt K a vs = true) : ∀ H, SqT K H a vs := fun H => by
  unfold tupAt at h
  split at h
  · rename_i cc od its n sl lk
    simp only [Bool.and_eq_true, decide_eq_true_eq] at h
    obtain ⟨rfl, h2, h3⟩ := h
    exact .inr ⟨_, its, n, lk, rfl, rfl, Nat.le_trans h2 (by decide), He.relAll_ok h3⟩
  · cases h
/-- a tuple of the module, by its address -/
theorem tup_get {mg : Str → Option Value} {hp : Heap} {x : Str} {vs : List V} (X : K.In hp) (G : hp.Ns mainGlobals mg) (g : (Fh.glo x).ok K = true) (h : (Fh.tup x vs).ok K = true) : GTup K mg x vs := ⟨ga K x, PySem.W.mg_of X G (glo_ g), tupAt_ok h⟩
theorem cls_ {x : Str} (h : (Fh.cls x).ok K = true) : ClsFact K (ga K x) := opB_ok h
theorem exc_ {x : Str} (h : (Fh.exc x).ok K = true) : ExcFact K (ga K x) := exB_ok h
theorem noat_ {x f : Str} (h : (Fh.noat x f).ok K = true) : PySem.W.findIn K (.ref (ga K x)) f = some none := He.eqO_ok h
theorem sub_ {x y : Str} {b : Bool} (h : (Fh.sub x y b).ok K = true) : PySem.W.subIn K (.ref (ga K x)) (.ref (ga K y)) = some b := of_decide_eq_true h
theorem kit_ {x y : Str} {b : Bool} (h : (Fh.kit x y b).ok K = true) : PySem.W.kitOne K (.ref (ga K x)) (.ref (ga K y)) = some b := of_decide_eq_true h
theorem kio_ {x y : Str} (h : (Fh.kio x y).ok K = true) : PySem.W.kitOne K (.ref (ga K x)) (.ref (ga K y)) = some (decide (ga K x = ga K y)) := of_decide_eq_true h
theorem kib_ {n : String} {y : Str} (h : (Fh.kib n y).ok K = true) : PySem.W.kitOne K (.type n) (.ref (ga K y)) = some false := of_decide_eq_true h
theorem kob_ {x : Str} {n : String} (h : (Fh.kob x n).ok K = true) : PySem.W.kitOne K (.ref (ga K x)) (.type n) = some false := of_decide_eq_true h
theorem obj_ (h : Fh.obj.ok K = true) : ObjFact K := by
  have h : (decide (PySem.W.specialIn K (.builtin "object.__class__") "__get__" = some (some (.builtin "getset_descriptor.__get__"))) && decide (PySem.W.takesIn K (.builtin "object.__class__") = some true)) = true := h
  obtain ⟨h1, h2⟩ := Bool.and_eq_true_iff.mp h
  exact ⟨of_decide_eq_true h1, of_decide_eq_true h2⟩
theorem ne_ {x y : Str} (h : (Fh.ne x y).ok K = true) : ga K x ≠ ga K y := of_decide_eq_true h
theorem fn_ {x : Str} {qual : Str} {st : Stmt} (c : Says fa fn ds w K) (i j k : Nat) (h : fn[i]? = some ⟨.glo x, x, qual, st⟩) (g : fa[j]? = some (.glo x)) (p : fa[k]? = some (.keep x)) : FnFact K x qual st := by
  obtain ⟨oc, od, sl, kV, dc, pm, an, cd, ct, l, e⟩ := c.def_ i h
  exact FnFact.of (glo_ (c.fact j g)) l e (c.fact k p)
theorem meth_ {x m : Str} {qual : Str} {st : Stmt} (c : Says fa fn ds w K) (i j : Nat) (h : fn[i]? = some ⟨.meth x m, m, qual, st⟩) (g : fa[j]? = some (.meth x m)) : MFact K (ga K x) m qual st := by
  obtain ⟨oc, od, sl, kV, dc, pm, an, cd, ct, l, e⟩ := c.def_ i h
  have g := c.fact j g
  obtain ⟨g1, g⟩ := Bool.and_eq_true_iff.mp g
  obtain ⟨g2, g3⟩ := Bool.and_eq_true_iff.mp g
  exact MFact.of (He.eqO_ok g1) l e g2 g3
theorem init_ {x : Str} {qual : Str} {st : Stmt} (c : Says fa fn ds w K) (i j : Nat) (h : fn[i]? = some ⟨.meth x "__init__", "__init__", qual, st⟩) (g : fa[j]? = some (.init x)) : EFact K (ga K x) qual st := by
  obtain ⟨oc, od, sl, kV, dc, pm, an, cd, ct, l, e⟩ := c.def_ i h
  have g := c.fact j g
  obtain ⟨g1, g⟩ := Bool.and_eq_true_iff.mp g
  obtain ⟨g2, g3⟩ := Bool.and_eq_true_iff.mp g
  exact EFact.of (He.eqO_ok g1) l e g2 (of_decide_eq_true g3)
theorem prop_ {x m : Str} {qual : Str} {st : Stmt} (c : Says fa fn ds w K) (i j : Nat) (h : fn[i]? = some ⟨.prop x m, m, qual, st⟩) (g : fa[j]? = some (.prop x m)) : PFact K (ga K x) m qual st := by
  obtain ⟨oc, od, sl, kV, dc, pm, an, cd, ct, l, e⟩ := c.def_ i h
  have g := c.fact j g
  obtain ⟨g1, g⟩ := Bool.and_eq_true_iff.mp g
  obtain ⟨g2, g⟩ := Bool.and_eq_true_iff.mp g
  obtain ⟨g3, g⟩ := Bool.and_eq_true_iff.mp g
  obtain ⟨g4, g5⟩ := Bool.and_eq_true_iff.mp g
  have l : K.lookup (pa K (ga K x) m) = _ := l
  have g5 : PySem.W.keepIn K (.ref (pa K (ga K x) m)) = true := g5
  split at g4
  · rename_i f rest er
    have ep : pa K (ga K x) m = f := by unfold pa; rw [er]
    rw [ep] at l g5
    exact PFact.of (He.eqO_ok g1) (of_decide_eq_true g2) (of_decide_eq_true g3) er l e g5
  · cases g4
theorem dic_ent {d : Addr} : ∀ {ks : List (Str × Option V)}, ks.all (entB K d) = true → ∀ p ∈ ks, EntOk K d p := fun h p m => by
  have h1 := List.all_eq_true.mp h p m
  obtain ⟨z, o⟩ := p
  cases o with
  | none => exact He.eqO_ok h1
  | some v =>
    have h2 : (match PySem.W.nsIn K d z with | some (some u) => He.relB v u | _ => false) = true := h1
    split at h2
    · rename_i u e
      exact ⟨u, e, He.relB_ok h2⟩
    · cases h2
theorem dic_enT {d : Addr} : ∀ {ks : List (Str × Option (List V))}, ks.all (enTB K d) = true → ∀ p ∈ ks, EntT K d p := fun h p m => by
  have h1 := List.all_eq_true.mp h p m
  obtain ⟨z, o⟩ := p
  cases o with
  | none => exact He.eqO_ok h1
  | some v =>
    have h2 : (match PySem.W.nsIn K d z with | some (some (.ref a)) => tupAt K a v | _ => false) = true := h1
    split at h2
    · rename_i a e
      exact ⟨a, e, tupAt_ok h2⟩
    · cases h2
theorem dic_at {x : Str} {ks : List Str} (e : dk K (ga K x) = ks.map fun z => (PyData.keyHash w.params z, some z)) (h : dicB K (ga K x) = true) : ∃ es n, KDict K w (ga K x) es n := by
  obtain ⟨h1, h2⟩ := Bool.and_eq_true_iff.mp h
  unfold dk at e
  split at h1
  · rename_i cc es n sl lk
    rw [lk] at e
    simp only [Bool.and_eq_true, decide_eq_true_eq] at h1
    obtain ⟨rfl, h3⟩ := h1
    have h4 : sl = #[] := by
      obtain ⟨sl⟩ := sl
      have : sl = [] := List.eq_nil_of_length_eq_zero h3
      rw [this]
    subst h4
    exact ⟨es, n, lk, keys_lit e, by simpa using h2⟩
  · cases h1
theorem dict_ {x : Str} {ks : List Str} {es : List (Str × Option V)} (c : Says fa fn ds w K) (i j k : Nat) (h : ds[i]? = some (x, ks)) (g : fa[j]? = some (.glo x)) (p : fa[k]? = some (.dict x es)) : GDictF K w x es := by
  obtain ⟨p1, p2⟩ := Bool.and_eq_true_iff.mp (c.fact k p)
  exact ⟨_, glo_ (c.fact j g), dic_at (c.dic i h) p1, dic_ent p2⟩
theorem dicT_ {x : Str} {ks : List Str} {es : List (Str × Option (List V))} (c : Says fa fn ds w K) (i j k : Nat) (h : ds[i]? = some (x, ks)) (g : fa[j]? = some (.glo x)) (p : fa[k]? = some (.dicT x es)) : GDictTF K w x es := by
  obtain ⟨p1, p2⟩ := Bool.and_eq_true_iff.mp (c.fact k p)
  exact ⟨_, glo_ (c.fact j g), dic_at (c.dic i h) p1, dic_enT p2⟩
end
end Hd

set_option Elab.async false
set_option linter.all false
set_option maxRecDepth 100000
set_option maxHeartbeats 1000000
namespace My
open PySem L2 Fx
local macro_rules | `(tactic| walk_at "fx") => `(tactic| try simp only [L2.start, List.map_cons, List.map_nil, List.length_cons, List.length_nil, Nat.reduceAdd, Nat.reduceSub, List.reduceReplicate, List.cons_append, List.nil_append, List.append_nil,
  tSeq, fVar, tVar, tC, tOp, tUn, tCons, tNil, fTup, fLst, tAsg, gName, tRet, tRetN, tDrop, tNext, tIf, tAnd, tOr, tNot, tTest, tB, tAug, tChain, tNotV, tAndV, tOrV, tSl, tPart, tNoPart, tCB, tCall, fBM, fBM0, tBreak, tCont, gTup, gCons, gNil,
  fAdd, fSub, fMul, fDiv, fMod, fNeg, fLt, fLe, fGt, fGe, fIx, fSl, fLen, fInt, fStr, fAbs, fMax, fMin, fOrd, fIsN, fNotN, fIsi, fListOf, isLst, isStr, isDct, fAppend, fS1, fJoin, fLstripC, fIAdd, fISub, fSet, tyOf, fEq, scal, fIn, iRng1, iRng2, iList, iTup, iStr, gSub, fGt_,
  List.getElem?_cons_zero, List.getElem?_cons_succ, List.set_cons_zero, List.set_cons_succ, upd_same, S_cps, S_len, L_S, one_list, flatV,
  V.int.injEq, V.str.injEq, V.bl.injEq, V.ref.injEq, Option.some.injEq, List.cons.injEq, exists_eq_left', exists_eq_left, exists_and_left, ex2, and_true, true_and, decide_eq_true_eq, Bool.not_eq_true', decide_eq_false_iff_not, Bool.false_eq_true, Bool.true_eq_false, Int.zero_add, Int.toNat_natCast, if_true, if_false, ite_true, ite_false, reduceIte, Int.reduceLT, Int.reduceLE, Int.reduceNeg, Int.reduceAdd, Nat.reduceLT, Nat.reduceLeDiff, Bool.not_true, Bool.not_false, kitBv, kitBs, not_true_eq_false, not_false_eq_true, Bool.or_false, Bool.false_or, Bool.or_true, Bool.true_or])
local macro_rules | `(tactic| walk_at "fx0") => `(tactic| try dsimp only [cxOf, Cx.nox, Cx.wish])
local macro_rules | `(tactic| walk_at "mul") => `(tactic| first | exact mul_left (by decide) (by decide) | exact mul_right (by decide) (by decide) | exact mul_left (by omega) (by omega) | exact mul_right (by omega) (by omega))
local macro_rules | `(tactic| walk_at "rm") => `(tactic| first | decide | exact Nat.le_refl _ | omega)
set_option hygiene false in
local macro_rules | `(tactic| walk_at "ox") => `(tactic| try simp only [WE_wOf, two, fTru, fLenD, fDisp, fPairs, iKeysK, fGetK, fInK, sPutK, sDelK, keyV, fListD, fDictD, tChain3, iZipM, fGdT_, fInDT, fIxDT, fRevL, sDelL, iEnum_, fTupOf, fSum, fGetD, fMkV, fXo, fIsX, fPop, fPopAt, fClear, fReverse, fExtend, fInsert, fGetN, fInN, sPutN, sDelN, fNewN, fLenN, iKeysN, fProp, fRaise, fXf, fIsE, fMethS, tCallS, fFmt, fJs, fJoined, fDivZ, fGd_, fInD, fIxD, WE, wOf, fDead, sDead, upd2, wipe, tYes, fIsB, beq_self_eq_true, List.not_mem_nil, or_false, false_or, fDnew, T.ne, fFld, fSetF, fMeth, isOb, fIsiO, fIsiP, fIsiA, tyV2, okT, kit2, kits2, allIn, putF, List.lookup_cons, List.lookup_nil, keyEq, List.mem_cons, true_or, or_true, L2.start, List.map_cons, List.map_nil, List.length_cons, List.length_nil, Nat.reduceAdd, Nat.reduceSub, List.reduceReplicate, List.cons_append, List.nil_append, List.append_nil,
  tSeq, fVar, tVar, tC, tOp, tUn, tCons, tNil, fTup, fLst, tAsg, gName, tRet, tRetN, tDrop, tNext, tIf, tAnd, tOr, tNot, tTest, tB, tAug, tChain, tNotV, tAndV, tOrV, tSl, tPart, tNoPart, tCB, tCall, fBM, fBM0, tBreak, tCont, gTup, gCons, gNil,
  fAdd, fSub, fMul, fDiv, fMod, fNeg, fLt, fLe, fGt, fGe, fIx, fSl, fLen, fInt, fStr, fAbs, fMax, fMin, fOrd, fIsN, fNotN, fIsi, fListOf, isLst, isStr, isDct, fAppend, fS1, fJoin, fLstripC, fIAdd, fISub, fSet, tyOf, fEq, scal, fIn, iRng1, iRng2, iList, iTup, iStr, gSub, fGt_,
  List.getElem?_cons_zero, List.getElem?_cons_succ, List.set_cons_zero, List.set_cons_succ, upd_same, S_cps, S_len, L_S, one_list, flatV,
  V.int.injEq, V.str.injEq, V.bl.injEq, V.ref.injEq, Option.some.injEq, List.cons.injEq, exists_eq_left', exists_eq_left, exists_and_left, ex2, and_true, true_and, decide_eq_true_eq, Bool.not_eq_true', decide_eq_false_iff_not, Bool.false_eq_true, Bool.true_eq_false, Int.zero_add, Int.toNat_natCast, if_true, if_false, ite_true, ite_false, reduceIte, Int.reduceLT, Int.reduceLE, Int.reduceNeg, Int.reduceAdd, Nat.reduceLT, Nat.reduceLeDiff, Bool.not_true, Bool.not_false, kitBv, kitBs, not_true_eq_false, not_false_eq_true, Bool.or_false, Bool.false_or, Bool.or_true, Bool.true_or])
set_option hygiene false in
local macro_rules | `(tactic| walk_at "oxs") => `(tactic| simp only [tIfS, WE_wOf, two, fTru, fLenD, fDisp, fPairs, iKeysK, fGetK, fInK, sPutK, sDelK, keyV, fListD, fDictD, tChain3, iZipM, fGdT_, fInDT, fIxDT, fRevL, sDelL, iEnum_, fTupOf, fSum, fGetD, fMkV, fXo, fIsX, fPop, fPopAt, fClear, fReverse, fExtend, fInsert, fGetN, fInN, sPutN, sDelN, fNewN, fLenN, iKeysN, fProp, fRaise, fXf, fIsE, fMethS, tCallS, fFmt, fJs, fJoined, fDivZ, fGd_, fInD, fIxD, WE, wOf, fDead, sDead,  reduceCtorEq, upd2, wipe, tYes, fIsB, beq_self_eq_true, List.not_mem_nil, or_false, false_or, fDnew, T.ne, fFld, fSetF, fMeth, isOb, fIsiO, fIsiP, fIsiA, tyV2, okT, kit2, kits2, allIn, putF, List.lookup_cons, List.lookup_nil, keyEq, List.mem_cons, true_or, or_true, L2.start, List.map_cons, List.map_nil, List.length_cons, List.length_nil, Nat.reduceAdd, Nat.reduceSub, List.reduceReplicate, List.cons_append, List.nil_append, List.append_nil,
  tSeq, fVar, tVar, tC, tOp, tUn, tCons, tNil, fTup, fLst, tAsg, gName, tRet, tRetN, tDrop, tNext, tIf, tAnd, tOr, tNot, tTest, tB, tAug, tChain, tNotV, tAndV, tOrV, tSl, tPart, tNoPart, tCB, tCall, fBM, fBM0, tBreak, tCont, gTup, gCons, gNil,
  fAdd, fSub, fMul, fDiv, fMod, fNeg, fLt, fLe, fGt, fGe, fIx, fSl, fLen, fInt, fStr, fAbs, fMax, fMin, fOrd, fIsN, fNotN, fIsi, fListOf, isLst, isStr, isDct, fAppend, fS1, fJoin, fLstripC, fIAdd, fISub, fSet, tyOf, fEq, scal, fIn, iRng1, iRng2, iList, iTup, iStr, gSub, fGt_,
  List.getElem?_cons_zero, List.getElem?_cons_succ, List.set_cons_zero, List.set_cons_succ, upd_same, S_cps, S_len, L_S, one_list, flatV,
  V.int.injEq, V.str.injEq, V.bl.injEq, V.ref.injEq, Option.some.injEq, List.cons.injEq, exists_eq_left', exists_eq_left, exists_and_left, ex2, and_true, true_and, decide_eq_true_eq, Bool.not_eq_true', decide_eq_false_iff_not, Bool.false_eq_true, Bool.true_eq_false, Int.zero_add, Int.toNat_natCast, if_true, if_false, ite_true, ite_false, reduceIte, Int.reduceLT, Int.reduceLE, Int.reduceNeg, Int.reduceAdd, Nat.reduceLT, Nat.reduceLeDiff, Bool.not_true, Bool.not_false, kitBv, kitBs, not_true_eq_false, not_false_eq_true, Bool.or_false, Bool.false_or, Bool.or_true, Bool.true_or])

def topS (i : Nat) : Stmt := PySem.Challenge.pw_livequill_k21_maps_by_methods.main.body.getD i (.Pass ⟨0, 0, 0, 0⟩)
abbrev s_ScriptError___init__ : Stmt := inClass (topS 3) 0
theorem sc_ScriptError___init__ : FnScope ["self", "kind", "message"] ["self", "kind", "message"] (defScope s_ScriptError___init__) := ⟨rfl, rfl, rfl, by decide +kernel, rfl, by decide +kernel, by decide +kernel⟩
abbrev s_Ref___init__ : Stmt := inClass (topS 5) 0
theorem sc_Ref___init__ : FnScope ["self", "number"] ["self", "number"] (defScope s_Ref___init__) := ⟨rfl, rfl, rfl, by decide +kernel, rfl, by decide +kernel, by decide +kernel⟩
abbrev s_Ref___eq__ : Stmt := inClass (topS 5) 1
theorem sc_Ref___eq__ : FnScope ["self", "other"] ["self", "other"] (defScope s_Ref___eq__) := ⟨rfl, rfl, rfl, by decide +kernel, rfl, by decide +kernel, by decide +kernel⟩
abbrev s_Builtin___init__ : Stmt := inClass (topS 6) 0
theorem sc_Builtin___init__ : FnScope ["self", "name"] ["self", "name"] (defScope s_Builtin___init__) := ⟨rfl, rfl, rfl, by decide +kernel, rfl, by decide +kernel, by decide +kernel⟩
abbrev s_Builtin___eq__ : Stmt := inClass (topS 6) 1
theorem sc_Builtin___eq__ : FnScope ["self", "other"] ["self", "other"] (defScope s_Builtin___eq__) := ⟨rfl, rfl, rfl, by decide +kernel, rfl, by decide +kernel, by decide +kernel⟩
abbrev s_key_of : Stmt := topS 8
theorem sc_key_of : FnScope ["value"] ["value"] (defScope s_key_of) := ⟨rfl, rfl, rfl, by decide +kernel, rfl, by decide +kernel, by decide +kernel⟩
abbrev s_Parts___init__ : Stmt := inClass (topS 9) 0
theorem sc_Parts___init__ : FnScope ["self", "held"] ["self", "held"] (defScope s_Parts___init__) := ⟨rfl, rfl, rfl, by decide +kernel, rfl, by decide +kernel, by decide +kernel⟩
abbrev s_Parts_fork : Stmt := inClass (topS 9) 1
theorem sc_Parts_fork : FnScope ["self"] ["self"] (defScope s_Parts_fork) := ⟨rfl, rfl, rfl, by decide +kernel, rfl, by decide +kernel, by decide +kernel⟩
abbrev s_Table___init__ : Stmt := inClass (topS 10) 0
theorem sc_Table___init__ : FnScope ["self"] ["self"] (defScope s_Table___init__) := ⟨rfl, rfl, rfl, by decide +kernel, rfl, by decide +kernel, by decide +kernel⟩
abbrev s_Table_many : Stmt := inClass (topS 10) 1
theorem sc_Table_many : FnScope ["self"] ["self"] (defScope s_Table_many) := ⟨rfl, rfl, rfl, by decide +kernel, rfl, by decide +kernel, by decide +kernel⟩
abbrev s_Table_has : Stmt := inClass (topS 10) 2
theorem sc_Table_has : FnScope ["self", "key"] ["self", "key"] (defScope s_Table_has) := ⟨rfl, rfl, rfl, by decide +kernel, rfl, by decide +kernel, by decide +kernel⟩
abbrev s_Table_value_of : Stmt := inClass (topS 10) 3
theorem sc_Table_value_of : FnScope ["self", "key"] ["self", "key"] (defScope s_Table_value_of) := ⟨rfl, rfl, rfl, by decide +kernel, rfl, by decide +kernel, by decide +kernel⟩
abbrev s_Table_put : Stmt := inClass (topS 10) 4
theorem sc_Table_put : FnScope ["self", "key", "value"] ["self", "key", "value"] (defScope s_Table_put) := ⟨rfl, rfl, rfl, by decide +kernel, rfl, by decide +kernel, by decide +kernel⟩
abbrev s_Table_take_out : Stmt := inClass (topS 10) 5
theorem sc_Table_take_out : FnScope ["self", "key"] ["self", "key"] (defScope s_Table_take_out) := ⟨rfl, rfl, rfl, by decide +kernel, rfl, by decide +kernel, by decide +kernel⟩
abbrev s_Table_pairs : Stmt := inClass (topS 10) 6
theorem sc_Table_pairs : FnScope ["self", "at"] ["self"] (defScope s_Table_pairs) := ⟨rfl, rfl, rfl, by decide +kernel, rfl, by decide +kernel, by decide +kernel⟩
abbrev s_Table_fork : Stmt := inClass (topS 10) 7
theorem sc_Table_fork : FnScope ["self"] ["self"] (defScope s_Table_fork) := ⟨rfl, rfl, rfl, by decide +kernel, rfl, by decide +kernel, by decide +kernel⟩
abbrev s_Instance___init__ : Stmt := inClass (topS 11) 0
theorem sc_Instance___init__ : FnScope ["self", "owner"] ["self", "owner"] (defScope s_Instance___init__) := ⟨rfl, rfl, rfl, by decide +kernel, rfl, by decide +kernel, by decide +kernel⟩
abbrev s_Instance_fork : Stmt := inClass (topS 11) 1
theorem sc_Instance_fork : FnScope ["self"] ["self"] (defScope s_Instance_fork) := ⟨rfl, rfl, rfl, by decide +kernel, rfl, by decide +kernel, by decide +kernel⟩
abbrev s_Kin___init__ : Stmt := inClass (topS 12) 0
theorem sc_Kin___init__ : FnScope ["self", "name", "parent"] ["self", "name", "parent"] (defScope s_Kin___init__) := ⟨rfl, rfl, rfl, by decide +kernel, rfl, by decide +kernel, by decide +kernel⟩
abbrev s_Kin_fork : Stmt := inClass (topS 12) 1
theorem sc_Kin_fork : FnScope ["self"] ["self"] (defScope s_Kin_fork) := ⟨rfl, rfl, rfl, by decide +kernel, rfl, by decide +kernel, by decide +kernel⟩
abbrev s_is_integer : Stmt := topS 14
theorem sc_is_integer : FnScope ["value"] ["value"] (defScope s_is_integer) := ⟨rfl, rfl, rfl, by decide +kernel, rfl, by decide +kernel, by decide +kernel⟩
abbrev s_thing_of : Stmt := topS 15
theorem sc_thing_of : FnScope ["store", "value"] ["store", "value"] (defScope s_thing_of) := ⟨rfl, rfl, rfl, by decide +kernel, rfl, by decide +kernel, by decide +kernel⟩
abbrev s_kind_of : Stmt := topS 16
theorem sc_kind_of : FnScope ["store", "value", "thing"] ["store", "value"] (defScope s_kind_of) := ⟨rfl, rfl, rfl, by decide +kernel, rfl, by decide +kernel, by decide +kernel⟩
abbrev s_equal : Stmt := topS 17
theorem sc_equal : FnScope ["x", "y"] ["x", "y"] (defScope s_equal) := ⟨rfl, rfl, rfl, by decide +kernel, rfl, by decide +kernel, by decide +kernel⟩
abbrev s_is_key : Stmt := topS 18
theorem sc_is_key : FnScope ["value"] ["value"] (defScope s_is_key) := ⟨rfl, rfl, rfl, by decide +kernel, rfl, by decide +kernel, by decide +kernel⟩
abbrev s_Store___init__ : Stmt := inClass (topS 23) 0
theorem sc_Store___init__ : FnScope ["self", "lines"] ["self", "lines"] (defScope s_Store___init__) := ⟨rfl, rfl, rfl, by decide +kernel, rfl, by decide +kernel, by decide +kernel⟩
abbrev s_Store_make : Stmt := inClass (topS 23) 1
theorem sc_Store_make : FnScope ["self", "thing"] ["self", "thing"] (defScope s_Store_make) := ⟨rfl, rfl, rfl, by decide +kernel, rfl, by decide +kernel, by decide +kernel⟩
abbrev s_Store_at : Stmt := inClass (topS 23) 2
theorem sc_Store_at : FnScope ["self", "ref"] ["self", "ref"] (defScope s_Store_at) := ⟨rfl, rfl, rfl, by decide +kernel, rfl, by decide +kernel, by decide +kernel⟩
abbrev s_Store_fork : Stmt := inClass (topS 23) 3
theorem sc_Store_fork : FnScope ["self"] ["self"] (defScope s_Store_fork) := ⟨rfl, rfl, rfl, by decide +kernel, rfl, by decide +kernel, by decide +kernel⟩
abbrev s_bounded : Stmt := topS 26
theorem sc_bounded : FnScope ["number"] ["number"] (defScope s_bounded) := ⟨rfl, rfl, rfl, by decide +kernel, rfl, by decide +kernel, by decide +kernel⟩
abbrev s_fitting_text : Stmt := topS 27
theorem sc_fitting_text : FnScope ["text"] ["text"] (defScope s_fitting_text) := ⟨rfl, rfl, rfl, by decide +kernel, rfl, by decide +kernel, by decide +kernel⟩
abbrev s_check_parts : Stmt := topS 28
theorem sc_check_parts : FnScope ["count"] ["count"] (defScope s_check_parts) := ⟨rfl, rfl, rfl, by decide +kernel, rfl, by decide +kernel, by decide +kernel⟩
abbrev s_check_count : Stmt := topS 29
theorem sc_check_count : FnScope ["values", "wanted"] ["values", "wanted"] (defScope s_check_count) := ⟨rfl, rfl, rfl, by decide +kernel, rfl, by decide +kernel, by decide +kernel⟩
abbrev s_check_kinds : Stmt := topS 30
theorem sc_check_kinds : FnScope ["store", "values", "kinds", "value", "kind", "fits"] ["store", "values", "kinds"] (defScope s_check_kinds) := ⟨rfl, rfl, rfl, by decide +kernel, rfl, by decide +kernel, by decide +kernel⟩
abbrev s_all_integers : Stmt := topS 31
theorem sc_all_integers : FnScope ["values", "value"] ["values"] (defScope s_all_integers) := ⟨rfl, rfl, rfl, by decide +kernel, rfl, by decide +kernel, by decide +kernel⟩
abbrev s_all_texts : Stmt := topS 32
theorem sc_all_texts : FnScope ["values", "value"] ["values"] (defScope s_all_texts) := ⟨rfl, rfl, rfl, by decide +kernel, rfl, by decide +kernel, by decide +kernel⟩
abbrev s_place_in : Stmt := topS 34
theorem sc_place_in : FnScope ["count", "i"] ["count", "i"] (defScope s_place_in) := ⟨rfl, rfl, rfl, by decide +kernel, rfl, by decide +kernel, by decide +kernel⟩
abbrev s_checked_key : Stmt := topS 35
theorem sc_checked_key : FnScope ["i"] ["i"] (defScope s_checked_key) := ⟨rfl, rfl, rfl, by decide +kernel, rfl, by decide +kernel, by decide +kernel⟩
abbrev s_get_item : Stmt := topS 36
theorem sc_get_item : FnScope ["store", "x", "i", "thing"] ["store", "x", "i"] (defScope s_get_item) := ⟨rfl, rfl, rfl, by decide +kernel, rfl, by decide +kernel, by decide +kernel⟩
abbrev s_put_key : Stmt := topS 37
theorem sc_put_key : FnScope ["table", "key", "value"] ["table", "key", "value"] (defScope s_put_key) := ⟨rfl, rfl, rfl, by decide +kernel, rfl, by decide +kernel, by decide +kernel⟩
abbrev s_set_item : Stmt := topS 38
theorem sc_set_item : FnScope ["store", "x", "i", "value", "thing"] ["store", "x", "i", "value"] (defScope s_set_item) := ⟨rfl, rfl, rfl, by decide +kernel, rfl, by decide +kernel, by decide +kernel⟩
abbrev s_make_list : Stmt := topS 39
theorem sc_make_list : FnScope ["store", "values"] ["store", "values"] (defScope s_make_list) := ⟨rfl, rfl, rfl, by decide +kernel, rfl, by decide +kernel, by decide +kernel⟩
abbrev s_make_map : Stmt := topS 40
theorem sc_make_map : FnScope ["store", "pairs", "table", "key", "value"] ["store", "pairs"] (defScope s_make_map) := ⟨rfl, rfl, rfl, by decide +kernel, rfl, by decide +kernel, by decide +kernel⟩
abbrev s_remove_key : Stmt := topS 43
theorem sc_remove_key : FnScope ["table", "key", "value"] ["table", "key"] (defScope s_remove_key) := ⟨rfl, rfl, rfl, by decide +kernel, rfl, by decide +kernel, by decide +kernel⟩
abbrev s_merge_into : Stmt := topS 44
theorem sc_merge_into : FnScope ["table", "other", "pairs", "fresh", "key", "value", "_"] ["table", "other"] (defScope s_merge_into) := ⟨rfl, rfl, rfl, by decide +kernel, rfl, by decide +kernel, by decide +kernel⟩
abbrev s_clear_all : Stmt := topS 45
theorem sc_clear_all : FnScope ["table", "key", "_"] ["table"] (defScope s_clear_all) := ⟨rfl, rfl, rfl, by decide +kernel, rfl, by decide +kernel, by decide +kernel⟩
abbrev s_copy_of : Stmt := topS 46
theorem sc_copy_of : FnScope ["store", "table", "double", "key", "value"] ["store", "table"] (defScope s_copy_of) := ⟨rfl, rfl, rfl, by decide +kernel, rfl, by decide +kernel, by decide +kernel⟩
abbrev s_listed : Stmt := topS 47
theorem sc_listed : FnScope ["store", "table", "name", "pairs", "pair"] ["store", "table", "name"] (defScope s_listed) := ⟨rfl, rfl, rfl, by decide +kernel, rfl, by decide +kernel, by decide +kernel⟩
abbrev s_call_map : Stmt := topS 48
theorem sc_call_map : FnScope ["store", "table", "name", "values"] ["store", "table", "name", "values"] (defScope s_call_map) := ⟨rfl, rfl, rfl, by decide +kernel, rfl, by decide +kernel, by decide +kernel⟩
abbrev s_check_gaps : Stmt := topS 51
theorem sc_check_gaps : FnScope ["count", "i", "j"] ["count", "i", "j"] (defScope s_check_gaps) := ⟨rfl, rfl, rfl, by decide +kernel, rfl, by decide +kernel, by decide +kernel⟩
abbrev s_pieces_of : Stmt := topS 52
theorem sc_pieces_of : FnScope ["text", "part"] ["text", "part"] (defScope s_pieces_of) := ⟨rfl, rfl, rfl, by decide +kernel, rfl, by decide +kernel, by decide +kernel⟩
abbrev s_replaced : Stmt := topS 53
theorem sc_replaced : FnScope ["text", "part", "other", "pieces", "size"] ["text", "part", "other"] (defScope s_replaced) := ⟨rfl, rfl, rfl, by decide +kernel, rfl, by decide +kernel, by decide +kernel⟩
abbrev s_repeated : Stmt := topS 54
theorem sc_repeated : FnScope ["text", "count"] ["text", "count"] (defScope s_repeated) := ⟨rfl, rfl, rfl, by decide +kernel, rfl, by decide +kernel, by decide +kernel⟩
abbrev s_place_of : Stmt := topS 55
theorem sc_place_of : FnScope ["text", "part", "at"] ["text", "part"] (defScope s_place_of) := ⟨rfl, rfl, rfl, by decide +kernel, rfl, by decide +kernel, by decide +kernel⟩
abbrev s_asked : Stmt := topS 56
theorem sc_asked : FnScope ["text", "name", "part"] ["text", "name", "part"] (defScope s_asked) := ⟨rfl, rfl, rfl, by decide +kernel, rfl, by decide +kernel, by decide +kernel⟩
abbrev s_turned : Stmt := topS 57
theorem sc_turned : FnScope ["text", "name"] ["text", "name"] (defScope s_turned) := ⟨rfl, rfl, rfl, by decide +kernel, rfl, by decide +kernel, by decide +kernel⟩
abbrev s_call_text : Stmt := topS 58
theorem sc_call_text : FnScope ["store", "text", "name", "values"] ["store", "text", "name", "values"] (defScope s_call_text) := ⟨rfl, rfl, rfl, by decide +kernel, rfl, by decide +kernel, by decide +kernel⟩
abbrev s_quoted : Stmt := topS 61
theorem sc_quoted : FnScope ["text"] ["text"] (defScope s_quoted) := ⟨rfl, rfl, rfl, by decide +kernel, rfl, by decide +kernel, by decide +kernel⟩
abbrev s_plain : Stmt := topS 62
theorem sc_plain : FnScope ["value"] ["value"] (defScope s_plain) := ⟨rfl, rfl, rfl, by decide +kernel, rfl, by decide +kernel, by decide +kernel⟩
abbrev s_head_of : Stmt := topS 63
theorem sc_head_of : FnScope ["store", "thing"] ["store", "thing"] (defScope s_head_of) := ⟨rfl, rfl, rfl, by decide +kernel, rfl, by decide +kernel, by decide +kernel⟩
abbrev s_Writer___init__ : Stmt := inClass (topS 64) 0
theorem sc_Writer___init__ : FnScope ["self", "store", "most"] ["self", "store", "most"] (defScope s_Writer___init__) := ⟨rfl, rfl, rfl, by decide +kernel, rfl, by decide +kernel, by decide +kernel⟩
abbrev s_Writer_put : Stmt := inClass (topS 64) 1
theorem sc_Writer_put : FnScope ["self", "piece"] ["self", "piece"] (defScope s_Writer_put) := ⟨rfl, rfl, rfl, by decide +kernel, rfl, by decide +kernel, by decide +kernel⟩
abbrev s_Writer_write : Stmt := inClass (topS 64) 2
theorem sc_Writer_write : FnScope ["self", "value", "thing"] ["self", "value"] (defScope s_Writer_write) := ⟨rfl, rfl, rfl, by decide +kernel, rfl, by decide +kernel, by decide +kernel⟩
abbrev s_Writer_write_box : Stmt := inClass (topS 64) 3
theorem sc_Writer_write_box : FnScope ["self", "number", "thing", "first", "last"] ["self", "number", "thing"] (defScope s_Writer_write_box) := ⟨rfl, rfl, rfl, by decide +kernel, rfl, by decide +kernel, by decide +kernel⟩
abbrev s_Writer_write_parts : Stmt := inClass (topS 64) 4
theorem sc_Writer_write_parts : FnScope ["self", "held", "at", "value"] ["self", "held"] (defScope s_Writer_write_parts) := ⟨rfl, rfl, rfl, by decide +kernel, rfl, by decide +kernel, by decide +kernel⟩
abbrev s_Writer_write_pairs : Stmt := inClass (topS 64) 5
theorem sc_Writer_write_pairs : FnScope ["self", "pairs", "at", "pair"] ["self", "pairs"] (defScope s_Writer_write_pairs) := ⟨rfl, rfl, rfl, by decide +kernel, rfl, by decide +kernel, by decide +kernel⟩
abbrev s_write_value : Stmt := topS 65
theorem sc_write_value : FnScope ["store", "value", "most", "writer"] ["store", "value", "most"] (defScope s_write_value) := ⟨rfl, rfl, rfl, by decide +kernel, rfl, by decide +kernel, by decide +kernel⟩
abbrev s_text_of : Stmt := topS 66
theorem sc_text_of : FnScope ["store", "value", "most"] ["store", "value", "most"] (defScope s_text_of) := ⟨rfl, rfl, rfl, by decide +kernel, rfl, by decide +kernel, by decide +kernel⟩
abbrev s_insert_at : Stmt := topS 69
theorem sc_insert_at : FnScope ["held", "i", "value"] ["held", "i", "value"] (defScope s_insert_at) := ⟨rfl, rfl, rfl, by decide +kernel, rfl, by decide +kernel, by decide +kernel⟩
abbrev s_taken_out : Stmt := topS 70
theorem sc_taken_out : FnScope ["held", "i", "value"] ["held", "i"] (defScope s_taken_out) := ⟨rfl, rfl, rfl, by decide +kernel, rfl, by decide +kernel, by decide +kernel⟩
abbrev s_joined : Stmt := topS 71
theorem sc_joined : FnScope ["store", "held", "between", "pieces", "room", "value", "piece"] ["store", "held", "between"] (defScope s_joined) := ⟨rfl, rfl, rfl, by decide +kernel, rfl, by decide +kernel, by decide +kernel⟩
abbrev s_sorted_parts : Stmt := topS 72
theorem sc_sorted_parts : FnScope ["held"] ["held"] (defScope s_sorted_parts) := ⟨rfl, rfl, rfl, by decide +kernel, rfl, by decide +kernel, by decide +kernel⟩
abbrev s_sum_of : Stmt := topS 73
theorem sc_sum_of : FnScope ["held"] ["held"] (defScope s_sum_of) := ⟨rfl, rfl, rfl, by decide +kernel, rfl, by decide +kernel, by decide +kernel⟩
abbrev s_places_of : Stmt := topS 74
theorem sc_places_of : FnScope ["held", "value", "at", "part"] ["held", "value"] (defScope s_places_of) := ⟨rfl, rfl, rfl, by decide +kernel, rfl, by decide +kernel, by decide +kernel⟩
abbrev s_zipped : Stmt := topS 75
theorem sc_zipped : FnScope ["store", "held", "others", "count", "pairs", "at"] ["store", "held", "others"] (defScope s_zipped) := ⟨rfl, rfl, rfl, by decide +kernel, rfl, by decide +kernel, by decide +kernel⟩
abbrev s_change_list : Stmt := topS 76
theorem sc_change_list : FnScope ["store", "thing", "name", "values", "others"] ["store", "thing", "name", "values"] (defScope s_change_list) := ⟨rfl, rfl, rfl, by decide +kernel, rfl, by decide +kernel, by decide +kernel⟩
abbrev s_search_list : Stmt := topS 77
theorem sc_search_list : FnScope ["thing", "name", "value", "places"] ["thing", "name", "value"] (defScope s_search_list) := ⟨rfl, rfl, rfl, by decide +kernel, rfl, by decide +kernel, by decide +kernel⟩
abbrev s_call_list : Stmt := topS 78
theorem sc_call_list : FnScope ["store", "thing", "name", "values", "held"] ["store", "thing", "name", "values"] (defScope s_call_list) := ⟨rfl, rfl, rfl, by decide +kernel, rfl, by decide +kernel, by decide +kernel⟩
abbrev s_call_method : Stmt := topS 80
theorem sc_call_method : FnScope ["store", "x", "name", "values", "thing", "kinds"] ["store", "x", "name", "values"] (defScope s_call_method) := ⟨rfl, rfl, rfl, by decide +kernel, rfl, by decide +kernel, by decide +kernel⟩
abbrev s_law_cell : Stmt := topS 82
theorem sc_law_cell : FnScope ["script", "k"] ["script", "k"] (defScope s_law_cell) := ⟨rfl, rfl, rfl, by decide +kernel, rfl, by decide +kernel, by decide +kernel⟩
abbrev s_law_begin : Stmt := topS 83
theorem sc_law_begin : FnScope ["script", "k"] ["script", "k"] (defScope s_law_begin) := ⟨rfl, rfl, rfl, by decide +kernel, rfl, by decide +kernel, by decide +kernel⟩
abbrev s_law_draw : Stmt := topS 84
theorem sc_law_draw : FnScope ["state", "many", "k", "cell", "prime", "mixed", "digit"] ["state", "many"] (defScope s_law_draw) := ⟨rfl, rfl, rfl, by decide +kernel, rfl, by decide +kernel, by decide +kernel⟩
abbrev s_law_pick : Stmt := topS 85
theorem sc_law_pick : FnScope ["state", "row"] ["state", "row"] (defScope s_law_pick) := ⟨rfl, rfl, rfl, by decide +kernel, rfl, by decide +kernel, by decide +kernel⟩
abbrev s_law_key : Stmt := topS 86
theorem sc_law_key : FnScope ["state"] ["state"] (defScope s_law_key) := ⟨rfl, rfl, rfl, by decide +kernel, rfl, by decide +kernel, by decide +kernel⟩
abbrev s_law_same : Stmt := topS 87
theorem sc_law_same : FnScope ["x", "y"] ["x", "y"] (defScope s_law_same) := ⟨rfl, rfl, rfl, by decide +kernel, rfl, by decide +kernel, by decide +kernel⟩
abbrev s_law_at : Stmt := topS 88
theorem sc_law_at : FnScope ["rows", "key", "k"] ["rows", "key"] (defScope s_law_at) := ⟨rfl, rfl, rfl, by decide +kernel, rfl, by decide +kernel, by decide +kernel⟩
abbrev s_law_put : Stmt := topS 89
theorem sc_law_put : FnScope ["rows", "key", "value", "at"] ["rows", "key", "value"] (defScope s_law_put) := ⟨rfl, rfl, rfl, by decide +kernel, rfl, by decide +kernel, by decide +kernel⟩
abbrev s_law_pairs : Stmt := topS 90
theorem sc_law_pairs : FnScope ["told", "rows", "k"] ["told", "rows"] (defScope s_law_pairs) := ⟨rfl, rfl, rfl, by decide +kernel, rfl, by decide +kernel, by decide +kernel⟩
abbrev s_law_try : Stmt := topS 91
theorem sc_law_try : FnScope ["store", "deed", "name", "values", "e"] ["store", "deed", "name", "values"] (defScope s_law_try) := ⟨rfl, rfl, rfl, by decide +kernel, rfl, by decide +kernel, by decide +kernel⟩
abbrev s_law_is : Stmt := topS 92
theorem sc_law_is : FnScope ["told", "value"] ["told", "value"] (defScope s_law_is) := ⟨rfl, rfl, rfl, by decide +kernel, rfl, by decide +kernel, by decide +kernel⟩
abbrev s_law_taken : Stmt := topS 93
theorem sc_law_taken : FnScope ["store", "rows", "key", "at", "told", "value", "left"] ["store", "rows", "key"] (defScope s_law_taken) := ⟨rfl, rfl, rfl, by decide +kernel, rfl, by decide +kernel, by decide +kernel⟩
abbrev s_law_set : Stmt := topS 94
theorem sc_law_set : FnScope ["store", "rows", "key", "value", "told"] ["store", "rows", "key", "value"] (defScope s_law_set) := ⟨rfl, rfl, rfl, by decide +kernel, rfl, by decide +kernel, by decide +kernel⟩
abbrev s_law_read : Stmt := topS 95
theorem sc_law_read : FnScope ["store", "rows", "key", "value", "at", "told", "other", "there"] ["store", "rows", "key", "value"] (defScope s_law_read) := ⟨rfl, rfl, rfl, by decide +kernel, rfl, by decide +kernel, by decide +kernel⟩
abbrev s_law_listed : Stmt := topS 96
theorem sc_law_listed : FnScope ["store", "rows", "keys", "values", "pairs", "first", "second", "third", "k", "both"] ["store", "rows"] (defScope s_law_listed) := ⟨rfl, rfl, rfl, by decide +kernel, rfl, by decide +kernel, by decide +kernel⟩
abbrev s_law_merged : Stmt := topS 97
theorem sc_law_merged : FnScope ["store", "rows", "state", "others", "k", "ref", "fresh", "told", "row"] ["store", "rows", "state"] (defScope s_law_merged) := ⟨rfl, rfl, rfl, by decide +kernel, rfl, by decide +kernel, by decide +kernel⟩
abbrev s_law_step : Stmt := topS 98
theorem sc_law_step : FnScope ["store", "rows", "state", "kind", "key", "value", "told", "bad", "due", "name"] ["store", "rows", "state"] (defScope s_law_step) := ⟨rfl, rfl, rfl, by decide +kernel, rfl, by decide +kernel, by decide +kernel⟩
abbrev s_law : Stmt := topS 99
theorem sc_law : FnScope ["script", "state", "store", "rows", "k"] ["script"] (defScope s_law) := ⟨rfl, rfl, rfl, by decide +kernel, rfl, by decide +kernel, by decide +kernel⟩
def big_GREATEST : Int := 1000000000000000000000000000000000000000000000000000000000000000000000000000000000000000000000000000000000000000000000000000000000000000000000000000000000000000000000000000000000000000000000000000000000000000000000000000000000000000000000000000000000000000000000000000000000000000000000000000000000000
structure Cs where
  Ref : Addr
  Builtin : Addr
  Parts : Addr
  Table : Addr
  Instance : Addr
  Kin : Addr
  Store : Addr
  Writer : Addr
  LivequillError : Addr
  ScriptError : Addr
theorem keyEq : (("__eq__" : Str) == "name") = false ∧ ¬ (("__eq__" : Str) = "name") ∧ (("__eq__" : Str) == "number") = false ∧ ¬ (("__eq__" : Str) = "number") ∧ (("__init__" : Str) == "_rows") = false ∧ ¬ (("__init__" : Str) = "_rows") ∧ (("__init__" : Str) == "around") = false ∧ ¬ (("__init__" : Str) = "around") ∧ (("__init__" : Str) == "held") = false ∧ ¬ (("__init__" : Str) = "held") ∧ (("__init__" : Str) == "lines") = false ∧ ¬ (("__init__" : Str) = "lines") ∧ (("__init__" : Str) == "methods") = false ∧ ¬ (("__init__" : Str) = "methods") ∧ (("__init__" : Str) == "most") = false ∧ ¬ (("__init__" : Str) = "most") ∧ (("__init__" : Str) == "name") = false ∧ ¬ (("__init__" : Str) = "name") ∧ (("__init__" : Str) == "named") = false ∧ ¬ (("__init__" : Str) = "named") ∧ (("__init__" : Str) == "number") = false ∧ ¬ (("__init__" : Str) = "number") ∧ (("__init__" : Str) == "output") = false ∧ ¬ (("__init__" : Str) = "output") ∧ (("__init__" : Str) == "owner") = false ∧ ¬ (("__init__" : Str) = "owner") ∧ (("__init__" : Str) == "parent") = false ∧ ¬ (("__init__" : Str) = "parent") ∧ (("__init__" : Str) == "pieces") = false ∧ ¬ (("__init__" : Str) = "pieces") ∧ (("__init__" : Str) == "store") = false ∧ ¬ (("__init__" : Str) = "store") ∧ (("__init__" : Str) == "taken") = false ∧ ¬ (("__init__" : Str) = "taken") ∧ (("__init__" : Str) == "things") = false ∧ ¬ (("__init__" : Str) = "things") ∧ (("__init__" : Str) == "written") = false ∧ ¬ (("__init__" : Str) = "written") ∧ (("around" : Str) == "most") = false ∧ ¬ (("around" : Str) = "most") ∧ (("around" : Str) == "pieces") = false ∧ ¬ (("around" : Str) = "pieces") ∧ (("around" : Str) == "store") = false ∧ ¬ (("around" : Str) = "store") ∧ (("around" : Str) == "written") = false ∧ ¬ (("around" : Str) = "written") ∧ (("at" : Str) == "lines") = false ∧ ¬ (("at" : Str) = "lines") ∧ (("at" : Str) == "output") = false ∧ ¬ (("at" : Str) = "output") ∧ (("at" : Str) == "taken") = false ∧ ¬ (("at" : Str) = "taken") ∧ (("at" : Str) == "things") = false ∧ ¬ (("at" : Str) = "things") ∧ (("fork" : Str) == "_rows") = false ∧ ¬ (("fork" : Str) = "_rows") ∧ (("fork" : Str) == "held") = false ∧ ¬ (("fork" : Str) = "held") ∧ (("fork" : Str) == "lines") = false ∧ ¬ (("fork" : Str) = "lines") ∧ (("fork" : Str) == "methods") = false ∧ ¬ (("fork" : Str) = "methods") ∧ (("fork" : Str) == "name") = false ∧ ¬ (("fork" : Str) = "name") ∧ (("fork" : Str) == "named") = false ∧ ¬ (("fork" : Str) = "named") ∧ (("fork" : Str) == "output") = false ∧ ¬ (("fork" : Str) = "output") ∧ (("fork" : Str) == "owner") = false ∧ ¬ (("fork" : Str) = "owner") ∧ (("fork" : Str) == "parent") = false ∧ ¬ (("fork" : Str) = "parent") ∧ (("fork" : Str) == "taken") = false ∧ ¬ (("fork" : Str) = "taken") ∧ (("fork" : Str) == "things") = false ∧ ¬ (("fork" : Str) = "things") ∧ (("has" : Str) == "_rows") = false ∧ ¬ (("has" : Str) = "_rows") ∧ (("kind" : Str) == "message") = false ∧ ¬ (("kind" : Str) = "message") ∧ (("lines" : Str) == "output") = false ∧ ¬ (("lines" : Str) = "output") ∧ (("lines" : Str) == "taken") = false ∧ ¬ (("lines" : Str) = "taken") ∧ (("lines" : Str) == "things") = false ∧ ¬ (("lines" : Str) = "things") ∧ (("make" : Str) == "lines") = false ∧ ¬ (("make" : Str) = "lines") ∧ (("make" : Str) == "output") = false ∧ ¬ (("make" : Str) = "output") ∧ (("make" : Str) == "taken") = false ∧ ¬ (("make" : Str) = "taken") ∧ (("make" : Str) == "things") = false ∧ ¬ (("make" : Str) = "things") ∧ (("many" : Str) == "_rows") = false ∧ ¬ (("many" : Str) = "_rows") ∧ (("message" : Str) == "kind") = false ∧ ¬ (("message" : Str) = "kind") ∧ (("methods" : Str) == "name") = false ∧ ¬ (("methods" : Str) = "name") ∧ (("methods" : Str) == "parent") = false ∧ ¬ (("methods" : Str) = "parent") ∧ (("most" : Str) == "around") = false ∧ ¬ (("most" : Str) = "around") ∧ (("most" : Str) == "pieces") = false ∧ ¬ (("most" : Str) = "pieces") ∧ (("most" : Str) == "store") = false ∧ ¬ (("most" : Str) = "store") ∧ (("most" : Str) == "written") = false ∧ ¬ (("most" : Str) = "written") ∧ (("name" : Str) == "methods") = false ∧ ¬ (("name" : Str) = "methods") ∧ (("name" : Str) == "parent") = false ∧ ¬ (("name" : Str) = "parent") ∧ (("named" : Str) == "owner") = false ∧ ¬ (("named" : Str) = "owner") ∧ (("output" : Str) == "lines") = false ∧ ¬ (("output" : Str) = "lines") ∧ (("output" : Str) == "taken") = false ∧ ¬ (("output" : Str) = "taken") ∧ (("output" : Str) == "things") = false ∧ ¬ (("output" : Str) = "things") ∧ (("owner" : Str) == "named") = false ∧ ¬ (("owner" : Str) = "named") ∧ (("pairs" : Str) == "_rows") = false ∧ ¬ (("pairs" : Str) = "_rows") ∧ (("parent" : Str) == "methods") = false ∧ ¬ (("parent" : Str) = "methods") ∧ (("parent" : Str) == "name") = false ∧ ¬ (("parent" : Str) = "name") ∧ (("pieces" : Str) == "around") = false ∧ ¬ (("pieces" : Str) = "around") ∧ (("pieces" : Str) == "most") = false ∧ ¬ (("pieces" : Str) = "most") ∧ (("pieces" : Str) == "store") = false ∧ ¬ (("pieces" : Str) = "store") ∧ (("pieces" : Str) == "written") = false ∧ ¬ (("pieces" : Str) = "written") ∧ (("put" : Str) == "_rows") = false ∧ ¬ (("put" : Str) = "_rows") ∧ (("put" : Str) == "around") = false ∧ ¬ (("put" : Str) = "around") ∧ (("put" : Str) == "most") = false ∧ ¬ (("put" : Str) = "most") ∧ (("put" : Str) == "pieces") = false ∧ ¬ (("put" : Str) = "pieces") ∧ (("put" : Str) == "store") = false ∧ ¬ (("put" : Str) = "store") ∧ (("put" : Str) == "written") = false ∧ ¬ (("put" : Str) = "written") ∧ (("store" : Str) == "around") = false ∧ ¬ (("store" : Str) = "around") ∧ (("store" : Str) == "most") = false ∧ ¬ (("store" : Str) = "most") ∧ (("store" : Str) == "pieces") = false ∧ ¬ (("store" : Str) = "pieces") ∧ (("store" : Str) == "written") = false ∧ ¬ (("store" : Str) = "written") ∧ (("take_out" : Str) == "_rows") = false ∧ ¬ (("take_out" : Str) = "_rows") ∧ (("taken" : Str) == "lines") = false ∧ ¬ (("taken" : Str) = "lines") ∧ (("taken" : Str) == "output") = false ∧ ¬ (("taken" : Str) = "output") ∧ (("taken" : Str) == "things") = false ∧ ¬ (("taken" : Str) = "things") ∧ (("things" : Str) == "lines") = false ∧ ¬ (("things" : Str) = "lines") ∧ (("things" : Str) == "output") = false ∧ ¬ (("things" : Str) = "output") ∧ (("things" : Str) == "taken") = false ∧ ¬ (("things" : Str) = "taken") ∧ (("value_of" : Str) == "_rows") = false ∧ ¬ (("value_of" : Str) = "_rows") ∧ (("write" : Str) == "around") = false ∧ ¬ (("write" : Str) = "around") ∧ (("write" : Str) == "most") = false ∧ ¬ (("write" : Str) = "most") ∧ (("write" : Str) == "pieces") = false ∧ ¬ (("write" : Str) = "pieces") ∧ (("write" : Str) == "store") = false ∧ ¬ (("write" : Str) = "store") ∧ (("write" : Str) == "written") = false ∧ ¬ (("write" : Str) = "written") ∧ (("write_box" : Str) == "around") = false ∧ ¬ (("write_box" : Str) = "around") ∧ (("write_box" : Str) == "most") = false ∧ ¬ (("write_box" : Str) = "most") ∧ (("write_box" : Str) == "pieces") = false ∧ ¬ (("write_box" : Str) = "pieces") ∧ (("write_box" : Str) == "store") = false ∧ ¬ (("write_box" : Str) = "store") ∧ (("write_box" : Str) == "written") = false ∧ ¬ (("write_box" : Str) = "written") ∧ (("write_pairs" : Str) == "around") = false ∧ ¬ (("write_pairs" : Str) = "around") ∧ (("write_pairs" : Str) == "most") = false ∧ ¬ (("write_pairs" : Str) = "most") ∧ (("write_pairs" : Str) == "pieces") = false ∧ ¬ (("write_pairs" : Str) = "pieces") ∧ (("write_pairs" : Str) == "store") = false ∧ ¬ (("write_pairs" : Str) = "store") ∧ (("write_pairs" : Str) == "written") = false ∧ ¬ (("write_pairs" : Str) = "written") ∧ (("write_parts" : Str) == "around") = false ∧ ¬ (("write_parts" : Str) = "around") ∧ (("write_parts" : Str) == "most") = false ∧ ¬ (("write_parts" : Str) = "most") ∧ (("write_parts" : Str) == "pieces") = false ∧ ¬ (("write_parts" : Str) = "pieces") ∧ (("write_parts" : Str) == "store") = false ∧ ¬ (("write_parts" : Str) = "store") ∧ (("write_parts" : Str) == "written") = false ∧ ¬ (("write_parts" : Str) = "written") ∧ (("written" : Str) == "around") = false ∧ ¬ (("written" : Str) = "around") ∧ (("written" : Str) == "most") = false ∧ ¬ (("written" : Str) = "most") ∧ (("written" : Str) == "pieces") = false ∧ ¬ (("written" : Str) = "pieces") ∧ (("written" : Str) == "store") = false ∧ ¬ (("written" : Str) = "store") := by (repeat' apply And.intro) <;> decide +kernel
--!raised ScriptError
--!raises check_parts check_count check_kinds put_key checked_key make_map remove_key merge_into listed call_map call_method get_item set_item make_list
--!none range len int isinstance bool list tuple str abs min max dict zip enumerate
--!skip place_in call_text call_list
--!gdt MAP_KINDS: has remove keys values items get merge copy clear length
--!gdt LIST_KINDS: push
--!gdt TEXT_KINDS: push
section
open PySem PySem.Spec PyProof.Rows L2 Fx
set_option maxHeartbeats 0
abbrev Rw : PySem.W.OpenRow := PySem.W.OpenLaw.row PySem.Challenge.rw_livequill_k21_maps_by_methods
def nm0 : List Str := [("_wall" : Str), ("LivequillError" : Str), ("ScriptError" : Str), ("Ref" : Str), ("Builtin" : Str), ("key_of" : Str), ("Parts" : Str), ("Table" : Str), ("Instance" : Str), ("Kin" : Str), ("is_integer" : Str), ("thing_of" : Str), ("kind_of" : Str), ("equal" : Str), ("is_key" : Str), ("MOST_PARTS" : Str), ("MOST_CHARACTERS" : Str), ("ERROR" : Str), ("Store" : Str), ("GREATEST" : Str)]
def nm1 : List Str := [("bounded" : Str), ("fitting_text" : Str), ("check_parts" : Str), ("check_count" : Str), ("check_kinds" : Str), ("all_integers" : Str), ("all_texts" : Str), ("place_in" : Str), ("checked_key" : Str), ("get_item" : Str), ("put_key" : Str), ("set_item" : Str), ("make_list" : Str), ("make_map" : Str), ("MAP_KINDS" : Str), ("remove_key" : Str), ("merge_into" : Str), ("clear_all" : Str), ("copy_of" : Str), ("listed" : Str)]
def nm2 : List Str := [("call_map" : Str), ("TEXT_KINDS" : Str), ("check_gaps" : Str), ("pieces_of" : Str), ("replaced" : Str), ("repeated" : Str), ("place_of" : Str), ("asked" : Str), ("turned" : Str), ("call_text" : Str), ("MOST_DEEP" : Str), ("quoted" : Str), ("plain" : Str), ("head_of" : Str), ("Writer" : Str), ("write_value" : Str), ("text_of" : Str), ("LIST_KINDS" : Str), ("insert_at" : Str), ("taken_out" : Str)]
def nm3 : List Str := [("joined" : Str), ("sorted_parts" : Str), ("sum_of" : Str), ("places_of" : Str), ("zipped" : Str), ("change_list" : Str), ("search_list" : Str), ("call_list" : Str), ("call_method" : Str), ("_law_cell" : Str), ("_law_begin" : Str), ("_law_draw" : Str), ("_law_pick" : Str), ("_law_key" : Str), ("_law_same" : Str), ("_law_at" : Str), ("_law_put" : Str), ("_law_pairs" : Str), ("_law_try" : Str), ("_law_is" : Str)]
def nm4 : List Str := [("_law_taken" : Str), ("_law_set" : Str), ("_law_read" : Str), ("_law_listed" : Str), ("_law_merged" : Str), ("_law_step" : Str)]
abbrev nms : List Str := nm0 ++ nm1 ++ nm2 ++ nm3 ++ nm4
def fa0 : List Hd.Fh := [.glo "Ref", .glo "Builtin", .glo "Parts", .glo "Table", .glo "Instance", .glo "Kin", .glo "Store", .glo "Writer", .glo "LivequillError", .glo "ScriptError", .cls "Ref", .cls "Builtin", .cls "Parts", .cls "Table", .cls "Instance", .cls "Kin", .cls "Store", .cls "Writer", .exc "LivequillError", .exc "ScriptError"]
def fa1 : List Hd.Fh := [.noat "ScriptError" "kind", .noat "ScriptError" "message", .sub "ScriptError" "ScriptError" true, .obj, .noat "Table" "_rows", .noat "Parts" "held", .noat "Store" "lines", .noat "Kin" "methods", .noat "Builtin" "name", .noat "Kin" "name", .noat "Instance" "named", .noat "Ref" "number", .noat "Store" "output", .noat "Instance" "owner", .noat "Kin" "parent", .noat "Store" "taken", .noat "Store" "things", .kio "Ref" "Ref", .kio "Ref" "Parts", .kio "Ref" "Table"]
def fa2 : List Hd.Fh := [.kio "Ref" "Instance", .kio "Ref" "Kin", .kio "Ref" "Builtin", .kio "Builtin" "Ref", .kio "Builtin" "Parts", .kio "Builtin" "Table", .kio "Builtin" "Instance", .kio "Builtin" "Kin", .kio "Builtin" "Builtin", .kio "Parts" "Ref", .kio "Parts" "Parts", .kio "Parts" "Table", .kio "Parts" "Instance", .kio "Parts" "Kin", .kio "Parts" "Builtin", .kio "Table" "Ref", .kio "Table" "Parts", .kio "Table" "Table", .kio "Table" "Instance", .kio "Table" "Kin"]
def fa3 : List Hd.Fh := [.kio "Table" "Builtin", .kio "Instance" "Ref", .kio "Instance" "Parts", .kio "Instance" "Table", .kio "Instance" "Instance", .kio "Instance" "Kin", .kio "Instance" "Builtin", .kio "Kin" "Ref", .kio "Kin" "Parts", .kio "Kin" "Table", .kio "Kin" "Instance", .kio "Kin" "Kin", .kio "Kin" "Builtin", .kio "Store" "Ref", .kio "Store" "Parts", .kio "Store" "Table", .kio "Store" "Instance", .kio "Store" "Kin", .kio "Store" "Builtin", .kio "Writer" "Ref"]
def fa4 : List Hd.Fh := [.kio "Writer" "Parts", .kio "Writer" "Table", .kio "Writer" "Instance", .kio "Writer" "Kin", .kio "Writer" "Builtin", .kib "NoneType" "Ref", .kib "NoneType" "Parts", .kib "NoneType" "Table", .kib "NoneType" "Instance", .kib "NoneType" "Kin", .kib "NoneType" "Builtin", .kib "bool" "Ref", .kib "bool" "Parts", .kib "bool" "Table", .kib "bool" "Instance", .kib "bool" "Kin", .kib "bool" "Builtin", .kib "int" "Ref", .kib "int" "Parts", .kib "int" "Table"]
def fa5 : List Hd.Fh := [.kib "int" "Instance", .kib "int" "Kin", .kib "int" "Builtin", .kib "str" "Ref", .kib "str" "Parts", .kib "str" "Table", .kib "str" "Instance", .kib "str" "Kin", .kib "str" "Builtin", .kib "list" "Ref", .kib "list" "Parts", .kib "list" "Table", .kib "list" "Instance", .kib "list" "Kin", .kib "list" "Builtin", .kib "tuple" "Ref", .kib "tuple" "Parts", .kib "tuple" "Table", .kib "tuple" "Instance", .kib "tuple" "Kin"]
def fa6 : List Hd.Fh := [.kib "tuple" "Builtin", .kib "dict" "Ref", .kib "dict" "Parts", .kib "dict" "Table", .kib "dict" "Instance", .kib "dict" "Kin", .kib "dict" "Builtin", .kob "Ref" "bool", .kob "Ref" "int", .kob "Ref" "str", .kob "Ref" "list", .kob "Ref" "tuple", .kob "Ref" "dict", .kob "Builtin" "bool", .kob "Builtin" "int", .kob "Builtin" "str", .kob "Builtin" "list", .kob "Builtin" "tuple", .kob "Builtin" "dict", .kob "Parts" "bool"]
def fa7 : List Hd.Fh := [.kob "Parts" "int", .kob "Parts" "str", .kob "Parts" "list", .kob "Parts" "tuple", .kob "Parts" "dict", .kob "Table" "bool", .kob "Table" "int", .kob "Table" "str", .kob "Table" "list", .kob "Table" "tuple", .kob "Table" "dict", .kob "Instance" "bool", .kob "Instance" "int", .kob "Instance" "str", .kob "Instance" "list", .kob "Instance" "tuple", .kob "Instance" "dict", .kob "Kin" "bool", .kob "Kin" "int", .kob "Kin" "str"]
def fa8 : List Hd.Fh := [.kob "Kin" "list", .kob "Kin" "tuple", .kob "Kin" "dict", .kob "Store" "bool", .kob "Store" "int", .kob "Store" "str", .kob "Store" "list", .kob "Store" "tuple", .kob "Store" "dict", .kob "Writer" "bool", .kob "Writer" "int", .kob "Writer" "str", .kob "Writer" "list", .kob "Writer" "tuple", .kob "Writer" "dict", .ne "Ref" "Builtin", .ne "Ref" "Parts", .ne "Ref" "Table", .ne "Ref" "Instance", .ne "Ref" "Kin"]
def fa9 : List Hd.Fh := [.ne "Ref" "Store", .ne "Ref" "Writer", .ne "Builtin" "Parts", .ne "Builtin" "Table", .ne "Builtin" "Instance", .ne "Builtin" "Kin", .ne "Builtin" "Store", .ne "Builtin" "Writer", .ne "Parts" "Table", .ne "Parts" "Instance", .ne "Parts" "Kin", .ne "Parts" "Store", .ne "Parts" "Writer", .ne "Table" "Instance", .ne "Table" "Kin", .ne "Table" "Store", .ne "Table" "Writer", .ne "Instance" "Kin", .ne "Instance" "Store", .ne "Instance" "Writer"]
def fa10 : List Hd.Fh := [.ne "Kin" "Store", .ne "Kin" "Writer", .ne "Store" "Writer", .glo "LIST_KINDS", .dicT "LIST_KINDS" [("push", some [.str "any"])], .glo "MAP_KINDS", .dicT "MAP_KINDS" [("has", some [.str "key"]), ("remove", some [.str "key"]), ("keys", some []), ("values", some []), ("items", some []), ("get", some [.str "key", .str "any"]), ("merge", some [.str "map"]), ("copy", some []), ("clear", some []), ("length", some [])], .glo "TEXT_KINDS", .dicT "TEXT_KINDS" [("push", none)], .glo "_law_cell", .keep "_law_cell", .glo "_law_begin", .keep "_law_begin", .glo "_law_draw", .keep "_law_draw", .meth "Ref" "__init__", .meth "Builtin" "__init__", .meth "Instance" "__init__", .meth "Kin" "__init__", .meth "Parts" "__init__"]
def fa11 : List Hd.Fh := [.init "ScriptError", .meth "Table" "__init__", .glo "key_of", .keep "key_of", .meth "Table" "has", .meth "Table" "value_of", .meth "Table" "put", .meth "Table" "take_out", .prop "Table" "many", .meth "Table" "pairs", .meth "Store" "__init__", .meth "Store" "make", .meth "Store" "at", .glo "thing_of", .keep "thing_of", .glo "kind_of", .keep "kind_of", .glo "check_parts", .keep "check_parts", .glo "make_list"]
def fa12 : List Hd.Fh := [.keep "make_list", .glo "_law_pick", .keep "_law_pick", .glo "equal", .keep "equal", .glo "check_kinds", .keep "check_kinds", .glo "check_count", .keep "check_count", .glo "is_key", .keep "is_key", .glo "checked_key", .keep "checked_key", .glo "put_key", .keep "put_key", .glo "make_map", .keep "make_map", .glo "get_item", .keep "get_item", .glo "set_item"]
def fa13 : List Hd.Fh := [.keep "set_item", .glo "remove_key", .keep "remove_key", .glo "merge_into", .keep "merge_into", .glo "clear_all", .keep "clear_all", .glo "copy_of", .keep "copy_of", .glo "listed", .keep "listed", .glo "call_map", .keep "call_map", .glo "call_method", .keep "call_method", .meth "Ref" "__eq__", .meth "Builtin" "__eq__", .glo "_law_same", .keep "_law_same", .glo "_law_key"]
def fa14 : List Hd.Fh := [.keep "_law_key", .glo "_law_at", .keep "_law_at", .glo "_law_put", .keep "_law_put", .glo "_law_pairs", .keep "_law_pairs", .glo "_law_is", .keep "_law_is", .glo "_law_try", .keep "_law_try", .glo "_law_taken", .keep "_law_taken", .glo "_law_set", .keep "_law_set", .glo "_law_read", .keep "_law_read", .glo "_law_listed", .keep "_law_listed", .glo "_law_merged"]
def fa15 : List Hd.Fh := [.keep "_law_merged", .glo "_law_step", .keep "_law_step", .glo "law", .keep "law", .free "abs", .free "bool", .free "dict", .free "enumerate", .free "int", .free "isinstance", .free "len", .free "list", .free "max", .free "min", .free "range", .free "str", .free "tuple", .free "zip", .str "ERROR" "Error"]
def fa16 : List Hd.Fh := [.int "MOST_PARTS" 1000]
abbrev fas : List Hd.Fh := fa0 ++ (fa1 ++ (fa2 ++ (fa3 ++ (fa4 ++ (fa5 ++ (fa6 ++ (fa7 ++ (fa8 ++ (fa9 ++ (fa10 ++ (fa11 ++ (fa12 ++ (fa13 ++ (fa14 ++ (fa15 ++ (fa16))))))))))))))))
def fns : List Hd.Df := [⟨.glo "_law_cell", "_law_cell", "_law_cell", s_law_cell⟩,
  ⟨.glo "_law_begin", "_law_begin", "_law_begin", s_law_begin⟩,
  ⟨.glo "_law_draw", "_law_draw", "_law_draw", s_law_draw⟩,
  ⟨.meth "Ref" "__init__", "__init__", "Ref.__init__", s_Ref___init__⟩,
  ⟨.meth "Builtin" "__init__", "__init__", "Builtin.__init__", s_Builtin___init__⟩,
  ⟨.meth "Instance" "__init__", "__init__", "Instance.__init__", s_Instance___init__⟩,
  ⟨.meth "Kin" "__init__", "__init__", "Kin.__init__", s_Kin___init__⟩,
  ⟨.meth "Parts" "__init__", "__init__", "Parts.__init__", s_Parts___init__⟩,
  ⟨.meth "ScriptError" "__init__", "__init__", "ScriptError.__init__", s_ScriptError___init__⟩,
  ⟨.meth "Table" "__init__", "__init__", "Table.__init__", s_Table___init__⟩,
  ⟨.glo "key_of", "key_of", "key_of", s_key_of⟩,
  ⟨.meth "Table" "has", "has", "Table.has", s_Table_has⟩,
  ⟨.meth "Table" "value_of", "value_of", "Table.value_of", s_Table_value_of⟩,
  ⟨.meth "Table" "put", "put", "Table.put", s_Table_put⟩,
  ⟨.meth "Table" "take_out", "take_out", "Table.take_out", s_Table_take_out⟩,
  ⟨.prop "Table" "many", "many", "Table.many", s_Table_many⟩,
  ⟨.meth "Table" "pairs", "pairs", "Table.pairs", s_Table_pairs⟩,
  ⟨.meth "Store" "__init__", "__init__", "Store.__init__", s_Store___init__⟩,
  ⟨.meth "Store" "make", "make", "Store.make", s_Store_make⟩,
  ⟨.meth "Store" "at", "at", "Store.at", s_Store_at⟩,
  ⟨.glo "thing_of", "thing_of", "thing_of", s_thing_of⟩,
  ⟨.glo "kind_of", "kind_of", "kind_of", s_kind_of⟩,
  ⟨.glo "check_parts", "check_parts", "check_parts", s_check_parts⟩,
  ⟨.glo "make_list", "make_list", "make_list", s_make_list⟩,
  ⟨.glo "_law_pick", "_law_pick", "_law_pick", s_law_pick⟩,
  ⟨.glo "equal", "equal", "equal", s_equal⟩,
  ⟨.glo "check_kinds", "check_kinds", "check_kinds", s_check_kinds⟩,
  ⟨.glo "check_count", "check_count", "check_count", s_check_count⟩,
  ⟨.glo "is_key", "is_key", "is_key", s_is_key⟩,
  ⟨.glo "checked_key", "checked_key", "checked_key", s_checked_key⟩,
  ⟨.glo "put_key", "put_key", "put_key", s_put_key⟩,
  ⟨.glo "make_map", "make_map", "make_map", s_make_map⟩,
  ⟨.glo "get_item", "get_item", "get_item", s_get_item⟩,
  ⟨.glo "set_item", "set_item", "set_item", s_set_item⟩,
  ⟨.glo "remove_key", "remove_key", "remove_key", s_remove_key⟩,
  ⟨.glo "merge_into", "merge_into", "merge_into", s_merge_into⟩,
  ⟨.glo "clear_all", "clear_all", "clear_all", s_clear_all⟩,
  ⟨.glo "copy_of", "copy_of", "copy_of", s_copy_of⟩,
  ⟨.glo "listed", "listed", "listed", s_listed⟩,
  ⟨.glo "call_map", "call_map", "call_map", s_call_map⟩,
  ⟨.glo "call_method", "call_method", "call_method", s_call_method⟩,
  ⟨.meth "Ref" "__eq__", "__eq__", "Ref.__eq__", s_Ref___eq__⟩,
  ⟨.meth "Builtin" "__eq__", "__eq__", "Builtin.__eq__", s_Builtin___eq__⟩,
  ⟨.glo "_law_same", "_law_same", "_law_same", s_law_same⟩,
  ⟨.glo "_law_key", "_law_key", "_law_key", s_law_key⟩,
  ⟨.glo "_law_at", "_law_at", "_law_at", s_law_at⟩,
  ⟨.glo "_law_put", "_law_put", "_law_put", s_law_put⟩,
  ⟨.glo "_law_pairs", "_law_pairs", "_law_pairs", s_law_pairs⟩,
  ⟨.glo "_law_is", "_law_is", "_law_is", s_law_is⟩,
  ⟨.glo "_law_try", "_law_try", "_law_try", s_law_try⟩,
  ⟨.glo "_law_taken", "_law_taken", "_law_taken", s_law_taken⟩,
  ⟨.glo "_law_set", "_law_set", "_law_set", s_law_set⟩,
  ⟨.glo "_law_read", "_law_read", "_law_read", s_law_read⟩,
  ⟨.glo "_law_listed", "_law_listed", "_law_listed", s_law_listed⟩,
  ⟨.glo "_law_merged", "_law_merged", "_law_merged", s_law_merged⟩,
  ⟨.glo "_law_step", "_law_step", "_law_step", s_law_step⟩,
  ⟨.glo "law", "law", "law", s_law⟩]
def dcs : List (Str × List Str) := [("LIST_KINDS", ["push", "insert", "pop", "remove", "length", "slice", "join", "contains", "reverse", "sort", "extend", "find", "count", "sum", "copy", "zip"]), ("MAP_KINDS", ["has", "remove", "keys", "values", "items", "get", "merge", "copy", "clear", "length"]), ("TEXT_KINDS", ["length", "upper", "lower", "slice", "split", "find", "replace", "trim", "startsWith", "endsWith", "contains", "repeat", "reverse", "lines", "code"])]
def rt0 : List Str := [("LivequillError" : Str), ("ScriptError" : Str), ("Ref" : Str), ("Builtin" : Str), ("Parts" : Str), ("Table" : Str), ("Instance" : Str), ("Kin" : Str), ("Store" : Str), ("Writer" : Str), ("LIST_KINDS" : Str), ("MAP_KINDS" : Str), ("TEXT_KINDS" : Str), ("_law_cell" : Str), ("_law_begin" : Str), ("_law_draw" : Str), ("key_of" : Str), ("thing_of" : Str), ("kind_of" : Str), ("check_parts" : Str)]
def rt1 : List Str := [("make_list" : Str), ("_law_pick" : Str), ("equal" : Str), ("check_kinds" : Str), ("check_count" : Str), ("is_key" : Str), ("checked_key" : Str), ("put_key" : Str), ("make_map" : Str), ("get_item" : Str), ("set_item" : Str), ("remove_key" : Str), ("merge_into" : Str), ("clear_all" : Str), ("copy_of" : Str), ("listed" : Str), ("call_map" : Str), ("call_method" : Str), ("_law_same" : Str), ("_law_key" : Str)]
def rt2 : List Str := [("_law_at" : Str), ("_law_put" : Str), ("_law_pairs" : Str), ("_law_is" : Str), ("_law_try" : Str), ("_law_taken" : Str), ("_law_set" : Str), ("_law_read" : Str), ("_law_listed" : Str), ("_law_merged" : Str), ("_law_step" : Str), ("law" : Str)]
abbrev rts : List Str := rt0 ++ rt1 ++ rt2
abbrev hk : PySem.W.Hook := Hd.hook 5 rts fas fns dcs
def ob (s : PySem.W.SharedT) : Hd.Al := Hd.obsG 5 rts fas fns dcs (HandSHeadRun.getT s)
theorem ob_eq (s : PySem.W.SharedT) : ob s = hk.obs s.abs := Hd.obsG_eq (HandSHeadRun.getT_eq s)
def Run (w : World) : Prop := HandSHeadRun.RunEq Rw (PySem.W.view Rw.prog [99]) hk ob 300000 nms w
theorem run_f (w : World) : Run (w.withFollow "special-get-raises" false) := fun os => by kernel_rfl
theorem run_t (w : World) : Run (w.withFollow "special-get-raises" true) := fun os => by kernel_rfl
theorem run (w : World) : Run w := PySem.W.byRow2 "special-get-raises" (P := Run) run_f run_t w
end
structure TxD (w : World) (K : PySem.W.Frag) (mg : Str → Option Value) : Prop where
  d_LIST_KINDS : GDictT K w mg "LIST_KINDS" [("push", some [.str "any"])]
  d_MAP_KINDS : GDictT K w mg "MAP_KINDS" [("has", some [.str "key"]), ("remove", some [.str "key"]), ("keys", some []), ("values", some []), ("items", some []), ("get", some [.str "key", .str "any"]), ("merge", some [.str "map"]), ("copy", some []), ("clear", some []), ("length", some [])]
  d_TEXT_KINDS : GDictT K w mg "TEXT_KINDS" [("push", none)]
structure Txt (K : PySem.W.Frag) (mg : Str → Option Value) (c : Cs) : Prop where
  no_abs : mg "abs" = none
  no_bool : mg "bool" = none
  no_dict : mg "dict" = none
  no_enumerate : mg "enumerate" = none
  no_int : mg "int" = none
  no_isinstance : mg "isinstance" = none
  no_len : mg "len" = none
  no_list : mg "list" = none
  no_max : mg "max" = none
  no_min : mg "min" = none
  no_range : mg "range" = none
  no_str : mg "str" = none
  no_tuple : mg "tuple" = none
  no_zip : mg "zip" = none
  g_ERROR : ∃ t, mg "ERROR" = some (.str "Error" t)
  g_MOST_PARTS : ∃ t, mg "MOST_PARTS" = some (.int 1000 t)
  mg_Ref : mg "Ref" = some (.ref c.Ref)
  cl_Ref : Cls K c.Ref
  mk_Ref : MkAt K mg "Ref" c.Ref
  mg_Builtin : mg "Builtin" = some (.ref c.Builtin)
  cl_Builtin : Cls K c.Builtin
  mk_Builtin : MkAt K mg "Builtin" c.Builtin
  mg_Parts : mg "Parts" = some (.ref c.Parts)
  cl_Parts : Cls K c.Parts
  mk_Parts : MkAt K mg "Parts" c.Parts
  mg_Table : mg "Table" = some (.ref c.Table)
  cl_Table : Cls K c.Table
  mk_Table : MkAt K mg "Table" c.Table
  mg_Instance : mg "Instance" = some (.ref c.Instance)
  cl_Instance : Cls K c.Instance
  mk_Instance : MkAt K mg "Instance" c.Instance
  mg_Kin : mg "Kin" = some (.ref c.Kin)
  cl_Kin : Cls K c.Kin
  mk_Kin : MkAt K mg "Kin" c.Kin
  mg_Store : mg "Store" = some (.ref c.Store)
  cl_Store : Cls K c.Store
  mk_Store : MkAt K mg "Store" c.Store
  mg_Writer : mg "Writer" = some (.ref c.Writer)
  cl_Writer : Cls K c.Writer
  mk_Writer : MkAt K mg "Writer" c.Writer
  pl__rows : Plain K [c.Table] "_rows"
  pl_held : Plain K [c.Parts] "held"
  pl_lines : Plain K [c.Store] "lines"
  pl_methods : Plain K [c.Kin] "methods"
  pl_name : Plain K [c.Builtin, c.Kin] "name"
  pl_named : Plain K [c.Instance] "named"
  pl_number : Plain K [c.Ref] "number"
  pl_output : Plain K [c.Store] "output"
  pl_owner : Plain K [c.Instance] "owner"
  pl_parent : Plain K [c.Kin] "parent"
  pl_taken : Plain K [c.Store] "taken"
  pl_things : Plain K [c.Store] "things"
  xpl_kind : XPlain K [c.ScriptError] "kind"
  xpl_message : XPlain K [c.ScriptError] "message"
  xf : ∀ C ∈ [c.LivequillError, c.ScriptError], ExcFact K C
  mg_LivequillError : mg "LivequillError" = some (.ref c.LivequillError)
  mg_ScriptError : mg "ScriptError" = some (.ref c.ScriptError)
  xn_kind_ScriptError : PySem.W.findIn K (.ref c.ScriptError) "kind" = some none
  xn_message_ScriptError : PySem.W.findIn K (.ref c.ScriptError) "message" = some none
  em_ScriptError_ScriptError : PySem.W.exmOne K (.ref c.ScriptError) (.ref c.ScriptError) = some true
  ob : ObjFact K
  kit : Kit K [c.Ref, c.Builtin, c.Parts, c.Table, c.Instance, c.Kin, c.Store, c.Writer] [c.Ref, c.Parts, c.Table, c.Instance, c.Kin, c.Builtin]
  ne : (c.Ref = c.Builtin) = False ∧ (c.Ref = c.Parts) = False ∧ (c.Ref = c.Table) = False ∧ (c.Ref = c.Instance) = False ∧ (c.Ref = c.Kin) = False ∧ (c.Ref = c.Store) = False ∧ (c.Ref = c.Writer) = False ∧ (c.Builtin = c.Ref) = False ∧ (c.Builtin = c.Parts) = False ∧ (c.Builtin = c.Table) = False ∧ (c.Builtin = c.Instance) = False ∧ (c.Builtin = c.Kin) = False ∧ (c.Builtin = c.Store) = False ∧ (c.Builtin = c.Writer) = False ∧ (c.Parts = c.Ref) = False ∧ (c.Parts = c.Builtin) = False ∧ (c.Parts = c.Table) = False ∧ (c.Parts = c.Instance) = False ∧ (c.Parts = c.Kin) = False ∧ (c.Parts = c.Store) = False ∧ (c.Parts = c.Writer) = False ∧ (c.Table = c.Ref) = False ∧ (c.Table = c.Builtin) = False ∧ (c.Table = c.Parts) = False ∧ (c.Table = c.Instance) = False ∧ (c.Table = c.Kin) = False ∧ (c.Table = c.Store) = False ∧ (c.Table = c.Writer) = False ∧ (c.Instance = c.Ref) = False ∧ (c.Instance = c.Builtin) = False ∧ (c.Instance = c.Parts) = False ∧ (c.Instance = c.Table) = False ∧ (c.Instance = c.Kin) = False ∧ (c.Instance = c.Store) = False ∧ (c.Instance = c.Writer) = False ∧ (c.Kin = c.Ref) = False ∧ (c.Kin = c.Builtin) = False ∧ (c.Kin = c.Parts) = False ∧ (c.Kin = c.Table) = False ∧ (c.Kin = c.Instance) = False ∧ (c.Kin = c.Store) = False ∧ (c.Kin = c.Writer) = False ∧ (c.Store = c.Ref) = False ∧ (c.Store = c.Builtin) = False ∧ (c.Store = c.Parts) = False ∧ (c.Store = c.Table) = False ∧ (c.Store = c.Instance) = False ∧ (c.Store = c.Kin) = False ∧ (c.Store = c.Writer) = False ∧ (c.Writer = c.Ref) = False ∧ (c.Writer = c.Builtin) = False ∧ (c.Writer = c.Parts) = False ∧ (c.Writer = c.Table) = False ∧ (c.Writer = c.Instance) = False ∧ (c.Writer = c.Kin) = False ∧ (c.Writer = c.Store) = False
section
variable {P : Program} {w : World} {K : PySem.W.Frag} {mg : Str → Option Value} {base : Heap} {c : Cs}
/-- the law's own state: a number, a place, the script; H0: the heap at the law's start -/
structure Dr (K : PySem.W.Frag) (H0 : Hp) (s sc : Addr) (ns : List Int) (H : Hp) : Prop where
  st : ∃ a k : Int, H s = some (.lst [.int a, .int k, .ref sc]) ∧ 0 ≤ a ∧ 0 ≤ k
  sq : SqL K H0 sc (ns.map V.int)
  sm : Same H0 H
  nw : H0 s = none
  le : ns.length ≤ 63
theorem same_keep {H0 H H' : Hp} {ps : List Addr} (s : Same H0 H) (k : Keep ps H H') (n : ∀ q ∈ ps, H0 q = none) : Same H0 H' := fun a o e => k a o (fun m => by rw [n a m] at e; cases e) (s a o e)
theorem Dr.keep {H0 : Hp} {s sc : Addr} {ns : List Int} {ps : List Addr} {H H' : Hp} (d : Dr K H0 s sc ns H) (k : Keep ps H H') (n1 : s ∉ ps) (n2 : ∀ q ∈ ps, H0 q = none) : Dr K H0 s sc ns H' := by
  obtain ⟨a, j, e, h1, h2⟩ := d.st
  exact ⟨⟨a, j, k _ _ n1 e, h1, h2⟩, d.sq, same_keep d.sm k n2, d.nw, d.le⟩
theorem Dr.same {H0 : Hp} {s sc : Addr} {ns : List Int} {H H' : Hp} (d : Dr K H0 s sc ns H) (k : Same H H') : Dr K H0 s sc ns H' := d.keep (Keep.of (ps := []) k) (by simp) (fun _ h => by cases h)
def spCell (K : PySem.W.Frag) : Sp := fun vs H Q _ => match vs with
  | [.ref a, .int k] => ∃ ns : List Int, SqL K H a (ns.map V.int) ∧ ns.length ≤ 63 ∧ 0 ≤ k ∧ ∀ v : Int, Q (.int v) H
  | _ => False
theorem ok_cell (A : At K mg "_law_cell" "_law_cell" s_law_cell ["script", "k"]) (T : Txt K mg c) : Has P w K mg base CX0 "_law_cell" 1 ["script", "k"] (spCell K) := by
  have Sc := sc_law_cell
  refine has_of A Sc (fun vs H Q E h => ?_) (fun cdv f A outer s H vs Q E hr h => ?_)
  · unfold spCell at h; split at h; rfl; cases h
  · unfold spCell at h
    split at h
    · rename_i a k
      obtain ⟨ns, hS, hn, h0, kk⟩ := h
      refine ⟨_, (pss_cons (ps_if (pt_cmpR op_fLt (fe_var 1) (pe_callB call_fLen (by rfl) T.no_len (by decide +kernel) (pa_cons (fe_var 0) pa_nil)) (nomark _)) (pss_one (ps_ret (pe_ix ix_fx (fe_var 0) (fe_var 1) (fun _ _ => rfl)))) pss_nil)
      (pss_one (ps_ret pe_int))), ?_⟩
      walk_at "fx0"
      walk_at "fx"
      refine ifs_ ?_
      walk_at "fx"
      refine ⟨_, .inl hS, ?_⟩
      rw [List.length_map]
      split
      · rename_i hlt
        obtain ⟨z, ez⟩ := at_ints (ns := ns) (i := k) h0 hlt
        exact ⟨_, .inl hS, _, ez, kk z⟩
      · exact kk 0
    · cases h
def spBegin (K : PySem.W.Frag) : Sp := fun vs H Q _ => match vs with
  | [.ref a, .int k] => 0 ≤ k ∧ ∀ s H1, H s = none → Same H H1 → H1 s = some (.lst [.int 0, .int k, .ref a]) → Q (.ref s) H1
  | _ => False
theorem ok_begin (A : At K mg "_law_begin" "_law_begin" s_law_begin ["script", "k"]) (T : Txt K mg c) : Has P w K mg base CX0 "_law_begin" 1 ["script", "k"] (spBegin K) := by
  have Sc := sc_law_begin
  refine has_of A Sc (fun vs H Q E h => ?_) (fun cdv f A outer s H vs Q E hr h => ?_)
  · unfold spBegin at h; split at h; rfl; cases h
  · unfold spBegin at h
    split at h
    · rename_i a k
      obtain ⟨h0, kk⟩ := h
      refine ⟨_, (pss_one (ps_ret (fe_lst (pa_cons pe_int (pa_cons (fe_var 1) (pa_cons (fe_var 0) pa_nil)))))), ?_⟩
      walk_at "fx0"
      walk_at "fx"
      exact kk
    · cases h
def spDraw (K : PySem.W.Frag) : Sp := fun vs H Q _ => match vs with
  | [.ref s, .int m] => ∃ H0 sc ns, Dr K H0 s sc ns H ∧ 0 < m ∧ m < 1000000000000000000000000000000 ∧ ∀ H1 (d : Int), Keep [s] H H1 → Dr K H0 s sc ns H1 → 0 ≤ d → d < m → Q (.int d) H1
  | _ => False
theorem big_mul {i : Int} (h0 : 0 ≤ i) (h : i < 2 ^ 100) : IntMulOk i i := by
  have b : Builtin.Int.intBits i ≤ 128 := by
    unfold Builtin.Int.intBits
    by_cases hz : i = 0
    · subst hz; decide
    · rw [if_neg (by simpa using hz)]
      have : i.natAbs.log2 < 100 := (Nat.log2_lt (by omega)).mpr (by omega)
      omega
  exact IntMulOk.of_le b b (by decide)
theorem ok_draw (A : At K mg "_law_draw" "_law_draw" s_law_draw ["state", "many"]) (T : Txt K mg c) (H_law_cell : Has P w K mg base CX0 "_law_cell" 1 ["script", "k"] (spCell K)) : Has P w K mg base CX0 "_law_draw" 2 ["state", "many"] (spDraw K) := by
  have Sc := sc_law_draw
  refine has_of A Sc (fun vs H Q E h => ?_) (fun cdv f A outer s H vs Q E hr h => ?_)
  · unfold spDraw at h; split at h; rfl; cases h
  · unfold spDraw at h
    split at h
    · rename_i st m
      obtain ⟨H0, sc, ns, D, h0, h1, kk⟩ := h
      obtain ⟨x, k, es, hx, hk⟩ := D.st
      refine ⟨_, (pss_cons (ps_if (pt_cmpR op_fLt (pe_ix ix_fx (fe_var 0) pe_int (fun _ _ => rfl)) (fe_var 1) (nomark _)) (pss_cons (ps_set (i := 2) Sc.nd rfl (.inl rfl) (pe_ix ix_fx (fe_var 0) pe_int (fun _ _ => rfl)))
      (pss_cons (ps_set (i := 3) Sc.nd rfl (.inl rfl) (fe_call H_law_cell (hr.mono (by walk_at "rm")) (by rfl) pass0 (pa_cons (pe_ix ix_fx (fe_var 0) pe_int (fun _ _ => rfl)) (pa_cons (fe_var 2) pa_nil))))
      (pss_cons (ps_set (i := 4) Sc.nd rfl (.inl rfl) pe_int)
      (pss_cons (ps_asg (pe_op op_fAdd (fe_var 2) pe_int) (pg_sub (fe_var 0) pe_int set_fx))
      (pss_cons (ps_asg (pe_callB call_fAbs (by rfl) T.no_abs (by decide +kernel) (pa_cons (fe_var 3) pa_nil)) (pg_sub (fe_var 0) pe_int set_fx))
      (pss_one (ps_if (pt_chain op_fLt op_fLt (pe_un un_fNeg pe_int) (fe_var 3) pe_int) (pss_cons (ps_set (i := 5) Sc.nd rfl (.inl rfl) (pe_op op_fMod (pe_callTy call_fInt (by rfl) T.no_int (by decide +kernel) (pa_cons (pe_op op_fAdd (pe_op op_fMul (fe_var 3) pe_int) (pe_op op_fMul (pe_op op_fAdd (fe_var 2) pe_int) pe_int)) pa_nil)) (fe_var 4)))
      (pss_one (ps_asg (pe_op op_fAdd (pe_op op_fMod (pe_callTy call_fInt (by rfl) T.no_int (by decide +kernel) (pa_cons (pe_op op_fAdd (pe_op op_fAdd (pe_op op_fMul (fe_var 5) (fe_var 5)) (pe_op op_fMul pe_int (fe_var 5))) (fe_var 2)) pa_nil)) (fe_var 4)) (fe_var 4)) (pg_sub (fe_var 0) pe_int set_fx)))) pss_nil))))))) pss_nil)
      (pss_cons (ps_set (i := 6) Sc.nd rfl (.inl rfl) (pe_op op_fMod (pe_callTy call_fInt (by rfl) T.no_int (by decide +kernel) (pa_cons (pe_ix ix_fx (fe_var 0) pe_int (fun _ _ => rfl)) pa_nil)) (fe_var 1)))
      (pss_cons (ps_asg (pe_op op_fDiv (pe_ix ix_fx (fe_var 0) pe_int (fun _ _ => rfl)) (fe_var 1)) (pg_sub (fe_var 0) pe_int set_fx))
      (pss_one (ps_ret (fe_var 6)))))), ?_⟩
      walk_at "fx0"
      walk_at "fx"
      refine cut_ fun N hN => ifs_ ?_
      walk_at "fx"
      refine ⟨_, rl_l es, _, atI_nat (j := 0) rfl, ?_⟩
      walk_at "fx"
      have fin : ∀ (y : Int) (k' : Int) (v2 v3 v4 v5 : Option V) (H1 : Hp), Keep [st] H H1 → H1 st = some (.lst [.int y, .int k', .ref sc]) → 0 ≤ y → 0 ≤ k' → N [some (.ref st), some (.int m), v2, v3, v4, v5, none] H1 := by
        intro y k' v3 v4 v5 v6 H1 kp e1 g0 g1
        refine hN _ _ ?_
        walk_at "fx"
        refine ⟨_, rl_l e1, _, atI_nat (j := 0) rfl, h0, _, rl_l e1, _, atI_nat (j := 0) rfl, wide_div (b := 100) h0 (by omega) (by decide) (by decide), ?_⟩
        rw [e1]
        refine ⟨0, rfl, ?_⟩
        have kp2 : Keep [st] H (upd H1 st (.lst ([V.int y, .int k', .ref sc].set 0 (.int (y / m))))) := kp.upd (by simp)
        exact kk _ _ kp2 ⟨⟨y / m, k', upd_same, Int.ediv_nonneg g0 (by omega), g1⟩, D.sq, same_keep D.sm kp2 (by intro q hq; rw [List.mem_singleton.mp hq]; exact D.nw), D.nw, D.le⟩ (emod_lo y h0) (emod_hi y h0)
      split
      · refine ⟨_, rl_l es, _, atI_nat (j := 1) rfl, _, rl_l es, _, atI_nat (j := 2) rfl, ?_⟩
        unfold spCell
        refine ⟨ns, D.sm.seq D.sq, D.le, hk, fun v => ?_⟩
        walk_at "fx"
        simp only [es]
        walk_at "fx"
        refine ⟨1, rfl, 0, rfl, ?_⟩
        refine ifs_ ?_
        walk_at "fx"
        have kp : Keep [st] H (upd (upd H st (.lst [.int x, .int (k + 1), .ref sc])) st (.lst [.int (if v < 0 then -v else v), .int (k + 1), .ref sc])) := (Keep.refl.upd (by simp)).upd (by simp)
        have ha : 0 ≤ (if v < 0 then -v else v) := by split <;> omega
        split
        · split
          · have g0 := emod_lo (v * 2654435761 + (k + 1) * 6700417) (m := 618970019642690137449562111) (by decide)
            have g1 := emod_hi (v * 2654435761 + (k + 1) * 6700417) (m := 618970019642690137449562111) (by decide)
            generalize (v * 2654435761 + (k + 1) * 6700417) % 618970019642690137449562111 = y at g0 g1
            have g2 := emod_lo (y * y + 7 * y + k) (m := 618970019642690137449562111) (by decide)
            refine ⟨by walk_at "mul", by walk_at "mul", big_mul g0 (by omega), by walk_at "mul", 0, rfl, ?_⟩
            exact fin _ (k + 1) _ _ _ _ _ (kp.upd (by simp)) upd_same (by omega) (by omega)
          · exact fin _ (k + 1) _ _ _ _ _ kp upd_same ha (by omega)
        · exact fin _ (k + 1) _ _ _ _ _ kp upd_same ha (by omega)
      · exact fin x k _ _ _ _ H Keep.refl es hx hk
    · cases h
end

section
variable {P : Program} {w : World} {K : PySem.W.Frag} {mg : Str → Option Value} {base : Heap} {c : Cs}
def spMk_Ref (K : PySem.W.Frag) (c : Cs) : Sp := fun vs H Q _ => match vs with
  | [v_number] => ∀ y dx H1, H y = none → Same H H1 → H1 y = some (.ins c.Ref dx [("number", v_number)]) → Q (.ref y) H1
  | _ => False
theorem mk_Ref (A : AtM K c.Ref "__init__" "Ref.__init__" s_Ref___init__ ["self", "number"]) (T : Txt K mg c) : HasC P w K mg base CX0 c.Ref "Ref" 1 ["self", "number"] (spMk_Ref K c) := by
  have Sc := sc_Ref___init__
  refine hasC_of T.mk_Ref A Sc (fun vs H Q E h => ?_) (fun cdv f A outer s H vs Q E y dx H0 hr h hy hs h0 => ?_)
  · unfold spMk_Ref at h; split at h; rfl; cases h
  · unfold spMk_Ref at h
    split at h
    · rename_i v_number
      refine ⟨_, (pss_one (fs_fld (fe_var 0) (fe_var 1) T.pl_number rfl)), ?_⟩
      walk_at "fx0"
      walk_at "ox"
      simp only [h0]
      walk_at "ox"
      first
        | exact h y dx _ hy (mk_same hs hy) upd_same
        | exact ⟨by decide, h y dx _ hy (mk_same hs hy) upd_same⟩
    · cases h
def spMk_Builtin (K : PySem.W.Frag) (c : Cs) : Sp := fun vs H Q _ => match vs with
  | [v_name] => ∀ y dx H1, H y = none → Same H H1 → H1 y = some (.ins c.Builtin dx [("name", v_name)]) → Q (.ref y) H1
  | _ => False
theorem mk_Builtin (A : AtM K c.Builtin "__init__" "Builtin.__init__" s_Builtin___init__ ["self", "name"]) (T : Txt K mg c) : HasC P w K mg base CX0 c.Builtin "Builtin" 1 ["self", "name"] (spMk_Builtin K c) := by
  have Sc := sc_Builtin___init__
  refine hasC_of T.mk_Builtin A Sc (fun vs H Q E h => ?_) (fun cdv f A outer s H vs Q E y dx H0 hr h hy hs h0 => ?_)
  · unfold spMk_Builtin at h; split at h; rfl; cases h
  · unfold spMk_Builtin at h
    split at h
    · rename_i v_name
      refine ⟨_, (pss_one (fs_fld (fe_var 0) (fe_var 1) T.pl_name rfl)), ?_⟩
      walk_at "fx0"
      walk_at "ox"
      simp only [h0]
      walk_at "ox"
      first
        | exact h y dx _ hy (mk_same hs hy) upd_same
        | exact ⟨by decide, h y dx _ hy (mk_same hs hy) upd_same⟩
    · cases h
def spMk_Instance (K : PySem.W.Frag) (c : Cs) : Sp := fun vs H Q _ => match vs with
  | [v_owner] => ∀ y dx p_named H1, H y = none → Same H H1 → H1 y = some (.ins c.Instance dx [("owner", v_owner), ("named", (.ref p_named))]) → H p_named = none → H1 p_named = some (.dK []) → p_named ≠ y → Q (.ref y) H1
  | _ => False
theorem mk_Instance (A : AtM K c.Instance "__init__" "Instance.__init__" s_Instance___init__ ["self", "owner"]) (T : Txt K mg c) : HasC P w K mg base CX0 c.Instance "Instance" 1 ["self", "owner"] (spMk_Instance K c) := by
  have Sc := sc_Instance___init__
  refine hasC_of T.mk_Instance A Sc (fun vs H Q E h => ?_) (fun cdv f A outer s H vs Q E y dx H0 hr h hy hs h0 => ?_)
  · unfold spMk_Instance at h; split at h; rfl; cases h
  · unfold spMk_Instance at h
    split at h
    · rename_i v_owner
      refine ⟨_, (pss_cons (fs_fld (fe_var 0) (fe_var 1) T.pl_owner rfl)
      (pss_one (fs_fld (fe_var 0) fe_dnew T.pl_named rfl))), ?_⟩
      walk_at "fx0"
      walk_at "ox"
      simp only [h0]
      walk_at "ox"
      intro p_named G_named n_named s_named e_named
      have ny_named : p_named ≠ y := fun q => by rw [q, upd_same] at n_named; cases n_named
      have y_named := s_named _ _ (upd_same)
      have t_named := (mk_same hs hy).trans s_named
      have f_named := Same.free (mk_same hs hy) n_named
      simp only [y_named]
      walk_at "ox"
      first
        | exact h y dx p_named _ hy (mk_same t_named hy) upd_same f_named ((upd_ne ny_named).trans e_named) ny_named
        | exact ⟨by decide, h y dx p_named _ hy (mk_same t_named hy) upd_same f_named ((upd_ne ny_named).trans e_named) ny_named⟩
    · cases h
def spMk_Kin (K : PySem.W.Frag) (c : Cs) : Sp := fun vs H Q _ => match vs with
  | [v_name, v_parent] => ∀ y dx p_methods H1, H y = none → Same H H1 → H1 y = some (.ins c.Kin dx [("name", v_name), ("parent", v_parent), ("methods", (.ref p_methods))]) → H p_methods = none → H1 p_methods = some (.dK []) → p_methods ≠ y → Q (.ref y) H1
  | _ => False
theorem mk_Kin (A : AtM K c.Kin "__init__" "Kin.__init__" s_Kin___init__ ["self", "name", "parent"]) (T : Txt K mg c) : HasC P w K mg base CX0 c.Kin "Kin" 1 ["self", "name", "parent"] (spMk_Kin K c) := by
  have Sc := sc_Kin___init__
  refine hasC_of T.mk_Kin A Sc (fun vs H Q E h => ?_) (fun cdv f A outer s H vs Q E y dx H0 hr h hy hs h0 => ?_)
  · unfold spMk_Kin at h; split at h; rfl; cases h
  · unfold spMk_Kin at h
    split at h
    · rename_i v_name v_parent
      refine ⟨_, (pss_cons (fs_fld (fe_var 0) (fe_var 1) T.pl_name rfl)
      (pss_cons (fs_fld (fe_var 0) (fe_var 2) T.pl_parent rfl)
      (pss_one (fs_fld (fe_var 0) fe_dnew T.pl_methods rfl)))), ?_⟩
      walk_at "fx0"
      walk_at "ox"
      simp only [h0]
      walk_at "ox"
      intro p_methods G_methods n_methods s_methods e_methods
      have ny_methods : p_methods ≠ y := fun q => by rw [q, upd_same] at n_methods; cases n_methods
      have y_methods := s_methods _ _ (upd_same)
      have t_methods := (mk_same hs hy).trans s_methods
      have f_methods := Same.free (mk_same hs hy) n_methods
      simp only [y_methods]
      walk_at "ox"
      first
        | exact h y dx p_methods _ hy (mk_same t_methods hy) upd_same f_methods ((upd_ne ny_methods).trans e_methods) ny_methods
        | exact ⟨by decide, h y dx p_methods _ hy (mk_same t_methods hy) upd_same f_methods ((upd_ne ny_methods).trans e_methods) ny_methods⟩
    · cases h
def spMk_Parts (K : PySem.W.Frag) (c : Cs) : Sp := fun vs H Q _ => match vs with
  | [.ref v_held] => ∃ xs_held, Rl K H v_held xs_held ∧ ∀ y dx p_held H1, H y = none → Same H H1 → H1 y = some (.ins c.Parts dx [("held", (.ref p_held))]) → H p_held = none → H1 p_held = some (.lst xs_held) → p_held ≠ y → Q (.ref y) H1
  | _ => False
theorem mk_Parts (A : AtM K c.Parts "__init__" "Parts.__init__" s_Parts___init__ ["self", "held"]) (T : Txt K mg c) : HasC P w K mg base CX0 c.Parts "Parts" 1 ["self", "held"] (spMk_Parts K c) := by
  have Sc := sc_Parts___init__
  refine hasC_of T.mk_Parts A Sc (fun vs H Q E h => ?_) (fun cdv f A outer s H vs Q E y dx H0 hr h hy hs h0 => ?_)
  · unfold spMk_Parts at h; split at h; rfl; cases h
  · unfold spMk_Parts at h
    split at h
    · rename_i v_held
      obtain ⟨xs_held, r_held, h⟩ := h
      refine ⟨_, (pss_one (fs_fld (fe_var 0) (pe_callTy call_fListOf (by rfl) T.no_list (by decide +kernel) (pa_cons (fe_var 1) pa_nil)) T.pl_held rfl)), ?_⟩
      walk_at "fx0"
      walk_at "ox"
      refine ⟨_, rl_keep (hs) r_held, ?_⟩
      intro p_held G_held n_held s_held e_held
      have ny_held : p_held ≠ y := fun q => by rw [q, h0] at n_held; cases n_held
      have y_held := s_held _ _ (h0)
      have t_held := (hs).trans s_held
      have f_held := Same.free (hs) n_held
      simp only [y_held]
      walk_at "ox"
      first
        | exact h y dx p_held _ hy (mk_same t_held hy) upd_same f_held ((upd_ne ny_held).trans e_held) ny_held
        | exact ⟨by decide, h y dx p_held _ hy (mk_same t_held hy) upd_same f_held ((upd_ne ny_held).trans e_held) ny_held⟩
    · cases h
theorem mkE_ScriptError (A : AtE K c.ScriptError "ScriptError.__init__" s_ScriptError___init__ ["self", "kind", "message"]) (T : Txt K mg c) : HasE P w K mg base c.ScriptError "ScriptError" 2 (two "kind" "message") :=
  hasE2 A sc_ScriptError___init__ rfl (T.xf _ (by simp)) T.xn_kind_ScriptError T.xn_message_ScriptError T.mg_ScriptError (by decide) (by decide) (by decide) (by decide)
end
section
variable {P : Program} {w : World} {K : PySem.W.Frag} {mg : Str → Option Value} {base : Heap} {c : Cs}
/-- the content of a key's tuple -/
def kxs (v : V) : List V := match v with
  | .bl _ => [.str "boolean", v]
  | _ => [.str "key", v]
def kN (v : V) : NestedKey := tupK (kxs v)
theorem kxs_sc {v : V} (h : scV v = true) : (kxs v).all scV = true := by cases v <;> first | rfl | cases h
theorem leaf_bl {p q : Bool} (h : leafK (.bl p) = leafK (.bl q)) : p = q := by
  have h' := NestedKey.num.inj (show NestedKey.num (if p = true then 1 else 0) = .num (if q = true then 1 else 0) from h)
  cases p <;> cases q <;> first
    | rfl
    | exact absurd h' (by decide)
theorem leafK_inj {x y : V} (hx : scV x = true) (hy : scV y = true) (b : (∃ p, x = .bl p) ↔ ∃ p, y = .bl p) (h : leafK x = leafK y) : x = y := by
  cases x <;> cases y <;> first
    | rfl
    | (exact congrArg V.bl (leaf_bl h))
    | (cases hx; done)
    | (cases hy; done)
    | (exact absurd (b.mp ⟨_, rfl⟩) (fun ⟨_, z⟩ => by cases z))
    | (exact absurd (b.mpr ⟨_, rfl⟩) (fun ⟨_, z⟩ => by cases z))
    | (cases h; done)
    | (cases h; rfl)
def tagV : V → Str
  | .bl _ => "boolean"
  | _ => "key"
theorem kN_inj {x y : V} (hx : scV x = true) (hy : scV y = true) (h : kN x = kN y) : x = y := by
  have h' := NestedKey.tup.inj (show NestedKey.tup ((kxs x).map leafK) = .tup ((kxs y).map leafK) from h)
  have e : ∀ v : V, (kxs v).map leafK = [.text (tagV v), leafK v] := fun v => by cases v <;> rfl
  rw [e, e] at h'
  have ht := NestedKey.text.inj (List.cons.inj h').1
  have hl := (List.cons.inj (List.cons.inj h').2).1
  refine leafK_inj hx hy ?_ hl
  have n1 : ¬ ((Str.ofString "boolean") = Str.ofString "key") := by decide +kernel
  have n2 : ¬ ((Str.ofString "key") = Str.ofString "boolean") := by decide +kernel
  cases x <;> cases y <;> first
    | (exact absurd ht n1)
    | (exact absurd ht n2)
    | (simp; done)
/-- the entries of a table: keys and values in order -/
def RowE (H : Hp) (e : NEnt) (r : V × V) : Prop := e.1 = kN r.1 ∧ scV r.1 = true ∧ ∃ tp, e.2.2 = .ref tp ∧ H tp = some (.tup [r.1, r.2])
structure TabR (w : World) (H : Hp) (d : Addr) (rows : List (V × V)) : Prop where
  ex : ∃ es, DN w H d es ∧ H d = some (nkO w d es) ∧ Paired (RowE H) es rows
  nd : (rows.map (·.1)).Nodup
def IsTab (c : Cs) (H : Hp) (a d : Addr) : Prop := ∃ dx, H a = some (.ins c.Table dx [("_rows", .ref d)])
theorem IsTab.same {H H' : Hp} {a d : Addr} (h : IsTab c H a d) (s : Same H H') : IsTab c H' a d := h.imp fun _ e => s _ _ e
theorem RowE.mono {H H' : Hp} {e : NEnt} {r : V × V} (h : RowE H e r) (s : ∀ b xs, H b = some (.tup xs) → H' b = some (.tup xs)) : RowE H' e r := ⟨h.1, h.2.1, h.2.2.imp fun _ ⟨x, y⟩ => ⟨x, s _ _ y⟩⟩
theorem TabR.mono {H H' : Hp} {d : Addr} {rows : List (V × V)} (h : TabR w H d rows) (hd : ∀ o, H d = some o → H' d = some o) (s : ∀ b xs, H b = some (.tup xs) → H' b = some (.tup xs)) : TabR w H' d rows := by
  obtain ⟨⟨es, D, e0, r⟩, nd⟩ := h
  exact ⟨⟨es, ⟨.inl (hd _ e0), fun e he => (D.ks e he).mono s⟩, hd _ e0, Paired.mapP r fun _ _ q => q.mono s⟩, nd⟩
theorem TabR.same {H H' : Hp} {d : Addr} {rows : List (V × V)} (h : TabR w H d rows) (s : Same H H') : TabR w H' d rows := h.mono (fun _ e => s _ _ e) fun _ _ e => s _ _ e
/-- behind a change of something that is no tuple, elsewhere -/
theorem TabR.keep {H H' : Hp} {d : Addr} {rows : List (V × V)} {ps : List Addr} (h : TabR w H d rows) (k : Keep ps H H') (n : d ∉ ps) (nt : ∀ p ∈ ps, ∀ xs, H p ≠ some (.tup xs)) : TabR w H' d rows :=
  h.mono (fun _ e => k _ _ n e) fun b xs e => k _ _ (fun m => nt b m xs e) e
def rowAt (rows : List (V × V)) (k : V) : Option V := (rows.find? fun r => decide (r.1 = k)).map (·.2)
def putR (rows : List (V × V)) (k v : V) : List (V × V) := if (rowAt rows k).isSome = true then rows.map (fun r => if r.1 = k then (k, v) else r) else rows ++ [(k, v)]
def dropR (rows : List (V × V)) (k : V) : List (V × V) := rows.filter fun r => decide (r.1 ≠ k)
theorem rows_at {H : Hp} {k : V} (hk : scV k = true) : ∀ {es : List NEnt} {rows : List (V × V)}, Paired (RowE H) es rows → match atN es (kN k), rowAt rows k with
    | some (.ref tp), some v => H tp = some (.tup [k, v])
    | none, none => True
    | _, _ => False := by
  intro es rows h
  induction h with
  | nil => exact trivial
  | @cons e r es rows h t ih =>
    obtain ⟨h1, h2, tp, h3, h4⟩ := h
    by_cases q : r.1 = k
    · have a : atN (e :: es) (kN k) = some e.2.2 := by simp [atN, List.find?_cons, h1, q]
      have b : rowAt (r :: rows) k = some r.2 := by simp [rowAt, List.find?_cons, q]
      rw [a, b, h3]
      rw [q] at h4
      exact h4
    · have nq : ¬ e.1 = kN k := fun z => q (kN_inj h2 hk (h1.symm.trans z))
      have a : atN (e :: es) (kN k) = atN es (kN k) := by simp [atN, List.find?_cons, nq]
      have b : rowAt (r :: rows) k = rowAt rows k := by simp [rowAt, List.find?_cons, q]
      rw [a, b]
      exact ih
theorem rows_some {H : Hp} {k : V} (hk : scV k = true) {es : List NEnt} {rows : List (V × V)} (h : Paired (RowE H) es rows) : (atN es (kN k)).isSome = (rowAt rows k).isSome := by
  have := rows_at hk h
  split at this
  · rename_i e1 e2; rw [e1, e2]; rfl
  · rename_i e1 e2; rw [e1, e2]
  · exact this.elim
theorem rows_put {H : Hp} {k v : V} {q tp : Addr} (hk : scV k = true) (ht : H tp = some (.tup [k, v])) {es : List NEnt} {rows : List (V × V)} (h : Paired (RowE H) es rows) : Paired (RowE H) (putN es (kN k) q (.ref tp)) (putR rows k v) := by
  unfold putN putR
  rw [rows_some hk h]
  split
  · rename_i hs
    clear hs
    induction h with
    | nil => exact .nil
    | @cons e r es rows h t ih =>
      rw [List.map_cons, List.map_cons]
      refine .cons ?_ ih
      obtain ⟨h1, h2, h3⟩ := h
      by_cases z : r.1 = k
      · rw [if_pos z, if_pos (by rw [h1, z])]
        exact ⟨by rw [h1, z], hk, tp, rfl, ht⟩
      · rw [if_neg z, if_neg (fun w => z (kN_inj h2 hk (h1.symm.trans w)))]
        exact ⟨h1, h2, h3⟩
  · exact Paired.snoc h ⟨rfl, hk, tp, rfl, ht⟩
theorem rows_drop {H : Hp} {k : V} (hk : scV k = true) {es : List NEnt} {rows : List (V × V)} (h : Paired (RowE H) es rows) : Paired (RowE H) (dropN es (kN k)) (dropR rows k) := by
  unfold dropN dropR
  induction h with
  | nil => exact .nil
  | @cons e r es rows h t ih =>
    obtain ⟨h1, h2, h3⟩ := h
    rw [List.filter_cons, List.filter_cons]
    by_cases z : r.1 = k
    · rw [if_neg (by simp [h1, z]), if_neg (by simp [z])]
      exact ih
    · rw [if_pos (by simpa using fun w => z (kN_inj h2 hk (h1.symm.trans w))), if_pos (by simp [z])]
      exact .cons ⟨h1, h2, h3⟩ ih
theorem rowAt_mem {rows : List (V × V)} {k : V} : (rowAt rows k).isSome = true ↔ k ∈ rows.map (·.1) := by
  unfold rowAt
  rw [Option.isSome_map, List.find?_isSome]
  simp
theorem putR_nd {rows : List (V × V)} {k v : V} (h : (rows.map (·.1)).Nodup) : ((putR rows k v).map (·.1)).Nodup := by
  unfold putR
  split
  · have e : (rows.map fun r => if r.1 = k then (k, v) else r).map (·.1) = rows.map (·.1) := by
      rw [List.map_map]
      refine List.map_congr_left fun r _ => ?_
      show (if r.1 = k then (k, v) else r).1 = r.1
      split
      · rename_i z; exact z.symm
      · rfl
    rw [e]; exact h
  · rename_i z
    rw [rowAt_mem] at z
    rw [List.map_append, List.nodup_append]
    refine ⟨h, by simp, fun a ha b hb e => ?_⟩
    simp at hb
    subst hb
    subst e
    exact z ha
theorem dropR_nd {rows : List (V × V)} {k : V} (h : (rows.map (·.1)).Nodup) : ((dropR rows k).map (·.1)).Nodup := (List.filter_sublist.map _).nodup h
theorem rows_get {H : Hp} : ∀ {es : List NEnt} {rows : List (V × V)}, Paired (RowE H) es rows → (rows.map (·.1)).Nodup → ∀ {i : Nat} {x : NEnt}, es[i]? = some x → atN es x.1 = some x.2.2 := by
  intro es rows h
  induction h with
  | nil => intro _ i x hx; simp at hx
  | @cons e r es rows h t ih =>
    intro nd i x hx
    obtain ⟨h1, h2, h3⟩ := h
    rw [List.map_cons, List.nodup_cons] at nd
    cases i with
    | zero =>
      simp at hx
      subst hx
      simp [atN, List.find?_cons]
    | succ j =>
      simp at hx
      obtain ⟨r', hr', k1, k2, k3⟩ := paired_get t hx
      have ne : ¬ e.1 = x.1 := fun z => by
        rw [h1, k1] at z
        have := kN_inj h2 k2 z
        exact nd.1 (by rw [this]; exact List.mem_map_of_mem (List.mem_of_getElem? hr'))
      have a : atN (e :: es) x.1 = atN es x.1 := by simp [atN, List.find?_cons, ne]
      rw [a]
      exact ih nd.2 hx
theorem rowAt_get : ∀ {rows : List (V × V)}, (rows.map (·.1)).Nodup → ∀ {i : Nat} {r : V × V}, rows[i]? = some r → rowAt rows r.1 = some r.2
  | [], _, i, r, h => by simp at h
  | q :: rows, nd, 0, r, h => by
    simp at h
    subst h
    simp [rowAt, List.find?_cons]
  | q :: rows, nd, i + 1, r, h => by
    simp at h
    rw [List.map_cons, List.nodup_cons] at nd
    have ne : ¬ q.1 = r.1 := fun z => nd.1 (by rw [z]; exact List.mem_map_of_mem (List.mem_of_getElem? h))
    have a : rowAt (q :: rows) r.1 = rowAt rows r.1 := by simp [rowAt, List.find?_cons, ne]
    rw [a]
    exact rowAt_get nd.2 h
theorem map_off {rows : List (V × V)} {k v : V} (h : k ∉ rows.map (·.1)) : (rows.map fun r => if r.1 = k then (k, v) else r) = rows := by
  induction rows with
  | nil => rfl
  | cons r rows ih =>
    rw [List.map_cons, List.mem_cons, not_or] at h
    rw [List.map_cons, if_neg (Ne.symm h.1), ih h.2]
theorem drop_off {rows : List (V × V)} {k : V} (h : k ∉ rows.map (·.1)) : dropR rows k = rows := by
  unfold dropR
  rw [List.filter_eq_self]
  intro r hr
  exact decide_eq_true fun e => h (by rw [← e]; exact List.mem_map_of_mem hr)
/-- where a key stands -/
theorem row_cases (k : V) : ∀ {rows : List (V × V)}, (rows.map (·.1)).Nodup → (∃ i r, rows[i]? = some r ∧ r.1 = k ∧ rows.findIdx? (fun r => decide (r.1 = k)) = some i ∧ (rowAt rows k).isSome = true ∧ dropR rows k = rows.eraseIdx i ∧ ∀ v, putR rows k v = rows.set i (k, v)) ∨
    (rows.findIdx? (fun r => decide (r.1 = k)) = none ∧ (rowAt rows k).isSome = false ∧ k ∉ rows.map (·.1) ∧ ∀ v, putR rows k v = rows ++ [(k, v)])
  | [], _ => .inr ⟨rfl, rfl, by simp, fun v => rfl⟩
  | r :: rows, nd => by
    rw [List.map_cons, List.nodup_cons] at nd
    by_cases e : r.1 = k
    · have hno : k ∉ rows.map (·.1) := by rw [← e]; exact nd.1
      have hs : (rowAt (r :: rows) k).isSome = true := by simp [rowAt, List.find?_cons, e]
      refine .inl ⟨0, r, rfl, e, by simp [List.findIdx?_cons, e], hs, ?_, fun v => ?_⟩
      · have : dropR (r :: rows) k = dropR rows k := by
          unfold dropR
          rw [List.filter_cons, if_neg (by simp [e])]
        rw [this, drop_off hno]
        rfl
      · unfold putR
        rw [if_pos hs, List.map_cons, if_pos e, map_off hno]
        rfl
    · have hs : (rowAt (r :: rows) k) = rowAt rows k := by simp [rowAt, List.find?_cons, e]
      rcases row_cases k nd.2 with ⟨i, r', h1, h2, h3, h4, h5, h6⟩ | ⟨h3, h4, hno, h6⟩
      · refine .inl ⟨i + 1, r', h1, h2, by simp [List.findIdx?_cons, e, h3], by rw [hs]; exact h4, ?_, fun v => ?_⟩
        · have : dropR (r :: rows) k = r :: dropR rows k := by
            unfold dropR
            rw [List.filter_cons, if_pos (by simp [e])]
          rw [this, h5]
          first | rfl | skip
        · have := h6 v
          unfold putR at this ⊢
          rw [if_pos h4] at this
          rw [hs, if_pos h4, List.map_cons, if_neg e, this]
          try rfl
      · refine .inr ⟨by simp [List.findIdx?_cons, e, h3], by rw [hs]; exact h4, by rw [List.map_cons, List.mem_cons, not_or]; exact ⟨Ne.symm e, hno⟩, fun v => ?_⟩
        unfold putR
        rw [hs, if_neg (by rw [h4]; decide)]
        try rfl
theorem paired_erase {α β : Type} {F : α → β → Prop} {xs : List α} {ys : List β} (h : Paired F xs ys) : ∀ i : Nat, Paired F (xs.eraseIdx i) (ys.eraseIdx i) := by
  induction h with
  | nil => intro i; exact .nil
  | cons r t ih =>
    intro i
    cases i with
    | zero => exact t
    | succ j => exact .cons r (ih j)
theorem paired_set {α β : Type} {F : α → β → Prop} {xs : List α} {ys : List β} {a : α} {b : β} (h : Paired F xs ys) (hab : F a b) : ∀ i : Nat, Paired F (xs.set i a) (ys.set i b) := by
  induction h with
  | nil => intro i; exact .nil
  | cons r t ih =>
    intro i
    cases i with
    | zero => exact .cons hab t
    | succ j => exact .cons r (ih j)
theorem putR_len (rows : List (V × V)) (k v : V) : (putR rows k v).length ≤ rows.length + 1 := by
  unfold putR
  split
  · rw [List.length_map]; omega
  · rw [List.length_append]; exact Nat.le_refl _
end

section
variable {P : Program} {w : World} {K : PySem.W.Frag} {mg : Str → Option Value} {base : Heap} {c : Cs}
def spMkTab (w : World) (c : Cs) : Sp := fun vs H Q _ => match vs with
  | [] => ∀ y d H1, H y = none → H d = none → Same H H1 → IsTab c H1 y d → TabR w H1 d [] → Q (.ref y) H1
  | _ => False
theorem ok_mktab (A : AtM K c.Table "__init__" "Table.__init__" s_Table___init__ ["self"]) (T : Txt K mg c) : HasC P w K mg base CX0 c.Table "Table" 1 ["self"] (spMkTab w c) := by
  have Sc := sc_Table___init__
  refine hasC_of T.mk_Table A Sc (fun vs H Q E h => ?_) (fun cdv f A outer s H vs Q E y dx H0 hr h hy hs h0 => ?_)
  · unfold spMkTab at h; split at h; rfl; cases h
  · unfold spMkTab at h
    split at h
    · refine ⟨_, (pss_one (fs_fld (fe_var 0) (pe_newN (w := w) rfl) T.pl__rows rfl)), ?_⟩
      walk_at "fx0"
      walk_at "ox"
      intro d H1 nd s1 e1
      have ny : d ≠ y := fun q => by rw [q, h0] at nd; cases nd
      have ey := s1 _ _ h0
      simp only [ey]
      walk_at "ox"
      first
        | exact h y d _ hy (hs.free nd) (mk_same (hs.trans s1) hy) ⟨dx, upd_same⟩ ⟨⟨[], ⟨.inl ((upd_ne ny).trans e1), fun _ z => by cases z⟩, (upd_ne ny).trans e1, .nil⟩, List.nodup_nil⟩
        | exact ⟨by decide, h y d _ hy (hs.free nd) (mk_same (hs.trans s1) hy) ⟨dx, upd_same⟩ ⟨⟨[], ⟨.inl ((upd_ne ny).trans e1), fun _ z => by cases z⟩, (upd_ne ny).trans e1, .nil⟩, List.nodup_nil⟩⟩
    · cases h
def spKeyOf : Sp := fun vs H Q _ => match vs with
  | [v] => scV v = true ∧ ∀ q H1, H q = none → Same H H1 → isKey H1 q (kxs v) → Q (.ref q) H1
  | _ => False
theorem ok_keyof (A : At K mg "key_of" "key_of" s_key_of ["value"]) (T : Txt K mg c) : Has P w K mg base CX0 "key_of" 1 ["value"] spKeyOf := by
  have Sc := sc_key_of
  refine has_of A Sc (fun vs H Q E h => ?_) (fun cdv f A outer s H vs Q E hr h => ?_)
  · unfold spKeyOf at h; split at h; rfl; cases h
  · unfold spKeyOf at h
    split at h
    · rename_i v
      obtain ⟨hv, h⟩ := h
      refine ⟨_, (pss_cons (ps_if (pt_val (pe_callB (call_fIsiA T.kit) (by rfl) T.no_isinstance (by decide +kernel) (pa_cons (fe_var 0) (pa_cons (fe_ty (n := "bool") (by rfl) T.no_bool (by decide +kernel)) pa_nil)))) (pss_one (ps_ret (fe_tup (pa_cons pe_str (pa_cons (fe_var 0) pa_nil))))) pss_nil)
      (pss_one (ps_ret (fe_tup (pa_cons pe_str (pa_cons (fe_var 0) pa_nil)))))), ?_⟩
      walk_at "fx0"
      cases v <;> first
        | (cases hv; done)
        | (repeat (walk_at "oxs")
           intro q H1 nq sm eq
           exact h q H1 nq sm ⟨eq, rfl⟩)
    · cases h
def spHas (w : World) (c : Cs) : Sp := fun vs H Q _ => match vs with
  | [.ref a, v] => ∃ d rows, IsTab c H a d ∧ TabR w H d rows ∧ scV v = true ∧ ∀ H1, Same H H1 → Q (.bl (rowAt rows v).isSome) H1
  | _ => False
theorem ok_has (A : AtM K c.Table "has" "Table.has" s_Table_has ["self", "key"]) (T : Txt K mg c) (H_key_of : Has P w K mg base CX0 "key_of" 1 ["value"] spKeyOf) : HasM P w K mg base CX0 c.Table "has" 2 ["self", "key"] (spHas w c) := by
  have Sc := sc_Table_has
  refine hasM_of A Sc (fun vs H Q E h => ?_) (fun cdv f A outer s H vs Q E hr h => ?_)
  · unfold spHas at h; split at h; rfl; cases h
  · unfold spHas at h
    split at h
    · rename_i a v
      obtain ⟨d, rows, ⟨dx, ea⟩, TR, hv, h⟩ := h
      refine ⟨_, (pss_one (ps_ret (pe_cmp (pc_inN (w := w) rfl hr.units (fe_call H_key_of (hr.mono (by walk_at "rm")) (by rfl) pass0 (pa_cons (fe_var 1) pa_nil)) (fe_fld (fe_var 0) T.pl__rows rfl))))), ?_⟩
      walk_at "fx0"
      walk_at "ox"
      refine ⟨hv, fun q H1 nq s1 kq => ?_⟩
      have ea1 := s1 _ _ ea
      simp only [ea1]
      walk_at "ox"
      obtain ⟨⟨es, D, e0, r⟩, nd⟩ := TR.same s1
      refine ⟨es, D, _, kq, ?_⟩
      have e := rows_some hv r
      unfold kN at e
      rw [e]
      exact h H1 s1
    · cases h
def spValOf (w : World) (c : Cs) : Sp := fun vs H Q _ => match vs with
  | [.ref a, v] => ∃ d rows x, IsTab c H a d ∧ TabR w H d rows ∧ scV v = true ∧ rowAt rows v = some x ∧ ∀ H1, Same H H1 → Q x H1
  | _ => False
theorem ok_valof (A : AtM K c.Table "value_of" "Table.value_of" s_Table_value_of ["self", "key"]) (T : Txt K mg c) (H_key_of : Has P w K mg base CX0 "key_of" 1 ["value"] spKeyOf) : HasM P w K mg base CX0 c.Table "value_of" 2 ["self", "key"] (spValOf w c) := by
  have Sc := sc_Table_value_of
  refine hasM_of A Sc (fun vs H Q E h => ?_) (fun cdv f A outer s H vs Q E hr h => ?_)
  · unfold spValOf at h; split at h; rfl; cases h
  · unfold spValOf at h
    split at h
    · rename_i a v
      obtain ⟨d, rows, x, ⟨dx, ea⟩, TR, hv, hx, h⟩ := h
      refine ⟨_, (pss_one (ps_ret (pe_ix ix_fx (pe_getN (w := w) rfl hr.units (fe_fld (fe_var 0) T.pl__rows rfl) (fe_call H_key_of (hr.mono (by walk_at "rm")) (by rfl) pass0 (pa_cons (fe_var 1) pa_nil)) (fun _ _ => rfl)) pe_int (fun _ _ => rfl)))), ?_⟩
      walk_at "fx0"
      walk_at "ox"
      simp only [ea]
      walk_at "ox"
      refine ⟨hv, fun q H1 nq s1 kq => ?_⟩
      obtain ⟨⟨es, D, e0, r⟩, nd⟩ := TR.same s1
      have e := rows_at hv r
      rw [hx] at e
      split at e
      · rename_i tp v' e1 e2
        cases e2
        refine ⟨es, D, _, kq, _, e1, ?_⟩
        exact ⟨_, rl_t e, _, rfl, h H1 s1⟩
      · rename_i e2; cases e2
      · exact e.elim
    · cases h
def spPut (w : World) (c : Cs) : Sp := fun vs H Q _ => match vs with
  | [.ref a, k, v] => ∃ d rows, IsTab c H a d ∧ TabR w H d rows ∧ scV k = true ∧ rows.length < 100000 ∧ ∀ H1, Keep [d] H H1 → TabR w H1 d (putR rows k v) → Q .non H1
  | _ => False
theorem DN.upd {H : Hp} {d : Addr} {es es' : List NEnt} (D : DN w H d es) (e0 : H d = some (nkO w d es)) (sub : ∀ e ∈ es', KeyT H e.1 e.2.1) : DN w (upd H d (nkO w d es')) d es' :=
  ⟨.inl upd_same, fun e he => (sub e he).mono fun b xs eb => by rw [upd_ne (ne_of eb e0 (Ne.symm nkO_ne_tup))]; exact eb⟩
theorem putN_mem {es : List NEnt} {k : NestedKey} {q : Addr} {v : V} {e : NEnt} (h : e ∈ putN es k q v) : (∃ e0 ∈ es, e.1 = e0.1 ∧ e.2.1 = e0.2.1) ∨ (e.1 = k ∧ e.2.1 = q) := by
  unfold putN at h
  split at h
  · obtain ⟨e0, he, rfl⟩ := List.mem_map.mp h
    refine .inl ⟨e0, he, ?_⟩
    split <;> exact ⟨rfl, rfl⟩
  · rcases List.mem_append.mp h with h | h
    · exact .inl ⟨e, h, rfl, rfl⟩
    · rw [List.mem_singleton.mp h]; exact .inr ⟨rfl, rfl⟩
theorem ok_put (A : AtM K c.Table "put" "Table.put" s_Table_put ["self", "key", "value"]) (T : Txt K mg c) (H_key_of : Has P w K mg base CX0 "key_of" 1 ["value"] spKeyOf) : HasM P w K mg base CX0 c.Table "put" 2 ["self", "key", "value"] (spPut w c) := by
  have Sc := sc_Table_put
  refine hasM_of A Sc (fun vs H Q E h => ?_) (fun cdv f A outer s H vs Q E hr h => ?_)
  · unfold spPut at h; split at h; rfl; cases h
  · unfold spPut at h
    split at h
    · rename_i a k v
      obtain ⟨d, rows, ⟨dx, ea⟩, TR, hk, hl, h⟩ := h
      refine ⟨_, (pss_one (ps_putN (w := w) rfl hr.units (fe_fld (fe_var 0) T.pl__rows rfl) (fe_call H_key_of (hr.mono (by walk_at "rm")) (by rfl) pass0 (pa_cons (fe_var 1) pa_nil)) (fe_tup (pa_cons (fe_var 1) (pa_cons (fe_var 2) pa_nil))) rfl)), ?_⟩
      walk_at "fx0"
      walk_at "ox"
      intro tp H1 ntp s1 etp
      have ea1 := s1 _ _ ea
      simp only [ea1]
      walk_at "ox"
      refine ⟨hk, fun q H2 nq s2 kq => ?_⟩
      obtain ⟨⟨es, D, e0, r⟩, nd⟩ := TR.same (s1.trans s2)
      have hle : es.length = rows.length := Paired.length r
      refine ⟨es, D, e0, _, kq, len_line' (by omega), ?_⟩
      have ne : ∀ b xs, H2 b = some (.tup xs) → upd H2 d (nkO w d (putN es (tupK (kxs k)) q (.ref tp))) b = some (.tup xs) := fun b xs eb => by
        rw [upd_ne (ne_of eb e0 (Ne.symm nkO_ne_tup))]; exact eb
      refine h _ ((Keep.of (s1.trans s2)).upd (by simp)) ⟨⟨_, DN.upd D e0 (fun e he => ?_), upd_same, Paired.mapP (rows_put (q := q) hk (s2 _ _ etp) r) fun _ _ z => z.mono ne⟩, putR_nd nd⟩
      rcases putN_mem he with ⟨e', he', h1, h2⟩ | ⟨h1, h2⟩
      · rw [h1, h2]; exact D.ks e' he'
      · rw [h1, h2]; exact kq.t
    · cases h
def spTake (w : World) (c : Cs) : Sp := fun vs H Q _ => match vs with
  | [.ref a, k] => ∃ d rows, IsTab c H a d ∧ TabR w H d rows ∧ scV k = true ∧ (rowAt rows k).isSome = true ∧ ∀ H1, Keep [d] H H1 → TabR w H1 d (dropR rows k) → Q .non H1
  | _ => False
theorem ok_take (A : AtM K c.Table "take_out" "Table.take_out" s_Table_take_out ["self", "key"]) (T : Txt K mg c) (H_key_of : Has P w K mg base CX0 "key_of" 1 ["value"] spKeyOf) : HasM P w K mg base CX0 c.Table "take_out" 2 ["self", "key"] (spTake w c) := by
  have Sc := sc_Table_take_out
  refine hasM_of A Sc (fun vs H Q E h => ?_) (fun cdv f A outer s H vs Q E hr h => ?_)
  · unfold spTake at h; split at h; rfl; cases h
  · unfold spTake at h
    split at h
    · rename_i a k
      obtain ⟨d, rows, ⟨dx, ea⟩, TR, hk, hs, h⟩ := h
      refine ⟨_, (pss_one (ps_delN (w := w) rfl hr.units (fe_fld (fe_var 0) T.pl__rows rfl) (fe_call H_key_of (hr.mono (by walk_at "rm")) (by rfl) pass0 (pa_cons (fe_var 1) pa_nil)))), ?_⟩
      walk_at "fx0"
      walk_at "ox"
      simp only [ea]
      walk_at "ox"
      refine ⟨hk, fun q H2 nq s2 kq => ?_⟩
      obtain ⟨⟨es, D, e0, r⟩, nd⟩ := TR.same s2
      have e := rows_some hk r
      refine ⟨es, D, e0, _, kq, by unfold kN at e; rw [e]; exact hs, ?_⟩
      have ne : ∀ b xs, H2 b = some (.tup xs) → upd H2 d (nkO w d (dropN es (tupK (kxs k)))) b = some (.tup xs) := fun b xs eb => by
        rw [upd_ne (ne_of eb e0 (Ne.symm nkO_ne_tup))]; exact eb
      exact h _ ((Keep.of s2).upd (by simp)) ⟨⟨_, DN.upd D e0 (fun e he => D.ks e (List.mem_filter.mp he).1), upd_same, Paired.mapP (rows_drop hk r) fun _ _ z => z.mono ne⟩, dropR_nd nd⟩
    · cases h
def spMany (w : World) (c : Cs) : Sp := fun vs H Q _ => match vs with
  | [.ref a] => ∃ d rows, IsTab c H a d ∧ TabR w H d rows ∧ Q (.int rows.length) H
  | _ => False
theorem ok_many (A : AtP K c.Table "many" "Table.many" s_Table_many ["self"]) (T : Txt K mg c) : HasP P w K mg base CX0 c.Table "many" 1 ["self"] (spMany w c) := by
  have Sc := sc_Table_many
  refine hasP_of A Sc (fun vs H Q E h => ?_) (fun cdv f A outer s H vs Q E hr h => ?_)
  · unfold spMany at h; split at h; rfl; cases h
  · unfold spMany at h
    split at h
    · rename_i a
      obtain ⟨d, rows, ⟨dx, ea⟩, ⟨⟨es, D, e0, r⟩, nd⟩, h⟩ := h
      refine ⟨_, (pss_one (ps_ret (pe_callB (call_fLenN (w := w) rfl) (by rfl) T.no_len (by decide +kernel) (pa_cons (fe_fld (fe_var 0) T.pl__rows rfl) pa_nil)))), ?_⟩
      walk_at "fx0"
      walk_at "ox"
      simp only [ea]
      walk_at "ox"
      refine ⟨es, D, ?_⟩
      rw [show es.length = rows.length from Paired.length r]
      exact h
    · cases h
/-- the entries as tuples -/
def RowsT (H : Hp) (ts : List Addr) (rows : List (V × V)) : Prop := Paired (fun t r => H t = some (.tup [r.1, r.2])) ts rows
def spPairs (w : World) (c : Cs) : Sp := fun vs H Q _ => match vs with
  | [.ref a] => ∃ d rows, IsTab c H a d ∧ TabR w H d rows ∧ rows.length ≤ 100000 ∧ ∀ p ts H1, H p = none → Same H H1 → H1 p = some (.lst (ts.map V.ref)) → RowsT H1 ts rows → Q (.ref p) H1
  | _ => False
theorem paired_take {α β : Type} {F : α → β → Prop} {xs : List α} {ys : List β} (h : Paired F xs ys) {i : Nat} {x : α} (e : xs[i]? = some x) : ∃ y, ys[i]? = some y ∧ F x y := paired_get h e
theorem ok_pairs (A : AtM K c.Table "pairs" "Table.pairs" s_Table_pairs ["self"]) (T : Txt K mg c) : HasM P w K mg base CX0 c.Table "pairs" 1 ["self"] (spPairs w c) := by
  have Sc := sc_Table_pairs
  refine hasM_of A Sc (fun vs H Q E h => ?_) (fun cdv f A outer s H vs Q E hr h => ?_)
  · unfold spPairs at h; split at h; rfl; cases h
  · unfold spPairs at h
    split at h
    · rename_i a
      obtain ⟨d, rows, ⟨dx, ea⟩, ⟨⟨es, D, e0, r⟩, nd⟩, hl, h⟩ := h
      refine ⟨_, (pss_one (ps_ret (pe_lock (pe_lc (own := [("at", 1)]) (by rfl) Sc.nd (pi_keysN (w := w) rfl (fe_fld (fe_var 0) T.pl__rows rfl)) (blkOk_by (own := [("at", 1)]) (N := ["self", "at"]) (sc := defScope s_Table_pairs) (by decide +kernel)) (fun _ _ _ _ _ => (pg_name (i := 1) Sc.nd rfl (.inl rfl))) (fun _ _ _ _ _ => pts_nil) (fun _ _ _ _ _ => (pe_getN (w := w) rfl hr.units (fe_fld (fe_var 0) T.pl__rows rfl) (fe_var 1) (fun _ _ => rfl))))))), ?_⟩
      walk_at "fx0"
      refine ⟨d, _, e0, trivial, fun od => ?_⟩
      have nad : a ≠ d := fun q => by
        rw [q, e0] at ea
        have z' : HO.ext _ = HO.ins _ _ _ := Option.some.inj ea
        cases z'
      have ea1 : upd H d (.frz od (nkO w d es)) a = some (.ins c.Table dx [("_rows", .ref d)]) := (upd_ne nad).trans ea
      refine lc_ ?_
      repeat (first | walk_at "oxs" | simp only [ea1])
      refine ⟨od, es, rfl, fun D0 nD => ?_⟩
      have nDd : D0 ≠ d := fun q => by rw [q, upd_same] at nD; cases nD
      have nDH : H D0 = none := by rw [upd_ne nDd] at nD; exact nD
      have hle : es.length = rows.length := Paired.length r
      refine lcx_keysN (fun i H1 => H1 d = some (.frz od (nkO w d es)) ∧ (∀ b o, b ≠ d → H b = some o → H1 b = some o) ∧ ∃ ts : List Addr, H1 D0 = some (.lst (ts.map V.ref)) ∧ RowsT H ts (rows.take i)) ⟨?_, ?_, [], upd_same, .nil⟩ ?_ ?_ ?_
      · rw [upd_ne (Ne.symm nDd)]; exact upd_same
      · intro b o nb eb
        rw [upd_ne (ne_of_none eb nDH), upd_ne nb]
        exact eb
      · rintro i H1 _ ⟨h1, _⟩
        exact h1
      · rintro i x H1 hx ⟨h1, h2, ts, h3, h4⟩
        obtain ⟨row, hr1, k1, k2, tp, k3, k4⟩ := paired_get r hx
        obtain ⟨kxs', g1, g2, g3⟩ := D.ks x (List.mem_of_getElem? hx)
        have nx : x.2.1 ≠ d := fun q => by rw [q, e0] at g1; exact nkO_ne_tup (Option.some.inj g1)
        have ea2 := h2 _ _ nad ea
        repeat (first | walk_at "oxs" | simp only [ea2])
        refine ⟨es, ⟨.inr ⟨od, h1⟩, fun e he => ?_⟩, kxs', ⟨h2 _ _ nx g1, g2⟩, x.2.2, ?_, ?_⟩
        · obtain ⟨ys, y1, y2, y3⟩ := D.ks e he
          exact ⟨ys, h2 _ _ (fun q => by rw [q, e0] at y1; exact nkO_ne_tup (Option.some.inj y1)) y1, y2, y3⟩
        · rw [← g3]
          exact rows_get r nd hx
        · rw [k3]
          refine ⟨_, h3, len_line' ?_, ?_, ?_, ts ++ [tp], ?_, ?_⟩
          · have := Paired.length h4
            have hi := (List.getElem?_eq_some_iff.mp hx).1
            rw [List.length_take] at this
            rw [List.length_map]
            omega
          · rw [upd_ne (Ne.symm nDd)]; exact h1
          · intro b o nb eb
            rw [upd_ne (ne_of_none eb nDH)]
            exact h2 b o nb eb
          · rw [List.map_append]; rfl
          · have et : rows.take (i + 1) = rows.take i ++ [row] := by rw [List.take_add_one, hr1]; rfl
            rw [et]
            exact Paired.snoc h4 k4
      · rintro H1 ⟨h1, h2, ts, h3, h4⟩
        refine ⟨h1, ?_⟩
        have et : rows.take es.length = rows := by rw [hle]; exact List.take_length
        rw [et] at h4
        have sm : Same H (upd H1 d (nkO w d es)) := fun b o eb => by
          by_cases q : b = d
          · rw [q, upd_same, ← e0, ← q]; exact eb
          · rw [upd_ne q]; exact h2 b o q eb
        exact h D0 ts _ nDH sm (by rw [upd_ne nDd]; exact h3) (Paired.mapP h4 fun _ _ z => sm _ _ z)
    · cases h
end

section
variable {P : Program} {w : World} {K : PySem.W.Frag} {mg : Str → Option Value} {base : Heap} {c : Cs}
/-! ### the store as a model -/
theorem take_get {α : Type} {xs : List α} {i : Nat} {x : α} (h : xs[i]? = some x) : xs.take (i + 1) = xs.take i ++ [x] := by rw [List.take_succ, h]; rfl
/-- a value of the language: null, a boolean, an integer, a text, a built-in function, an object's number -/
inductive RV where
  | nul
  | boo (b : Bool)
  | num (n : Int)
  | txt (z : Str)
  | bt (z : Str)
  | ob (n : Nat)
  deriving DecidableEq
inductive Th where
  | parts (xs : List RV)
  | table (rows : List (RV × RV))
  | inst (owner : Nat) (fs : List (Str × RV))
  | kin (name : Str) (parent : Option Nat) (ms : List (Str × Nat))
  | clo (number wanted : Int) (scope : List Nat)
  | bound (owner fn : Nat)
  | var (v : RV)
  | cur (xs : List RV)
def IsRef (c : Cs) (H : Hp) (a : Addr) (n : Int) : Prop := ∃ dx, H a = some (.ins c.Ref dx [("number", .int n)])
def IsRefV (c : Cs) (H : Hp) (v : V) (n : Nat) : Prop := ∃ a, v = .ref a ∧ IsRef c H a (n : Nat)
def IsBt (c : Cs) (H : Hp) (a : Addr) (n : Str) : Prop := ∃ dx, H a = some (.ins c.Builtin dx [("name", .str n)])

def IsVal (c : Cs) (H : Hp) (v : V) : RV → Prop
  | .nul => v = .non
  | .boo b => v = .bl b
  | .num n => v = .int n
  | .txt z => v = .str z
  | .bt n => ∃ a, v = .ref a ∧ IsBt c H a n
  | .ob n => IsRefV c H v n
/-- what never changes: tuples, references, built-in functions -/
def Hard (c : Cs) (o : HO) : Prop := (∃ xs, o = .tup xs) ∨ (∃ dx fs, o = .ins c.Ref dx fs)
  ∨ (∃ dx fs, o = .ins c.Builtin dx fs)
def Soft (c : Cs) (H : Hp) (p : Addr) : Prop := ∀ o, H p = some o → ¬ Hard c o
theorem Hard.t (xs : List V) : Hard c (.tup xs) := .inl ⟨xs, rfl⟩

theorem Hard.r {dx : Addr} {fs : List (Str × V)} : Hard c (.ins c.Ref dx fs) := .inr (.inl ⟨dx, fs, rfl⟩)
theorem Hard.b {dx : Addr} {fs : List (Str × V)} : Hard c (.ins c.Builtin dx fs) := .inr (.inr ⟨dx, fs, rfl⟩)
/-- the hard things stay -/
def HardStay (c : Cs) (H H' : Hp) : Prop := ∀ a o, H a = some o → Hard c o → H' a = some o
theorem HardStay.same {H H' : Hp} (s : Same H H') : HardStay c H H' := fun a o e _ => s a o e
theorem HardStay.keep {H H' : Hp} {ps : List Addr} (k : Keep ps H H') (s : ∀ p ∈ ps, Soft c H p) : HardStay c H H' := fun a o e hd => k a o (fun m => s a m o e hd) e
theorem HardStay.trans {H H1 H2 : Hp} (h : HardStay c H H1) (g : HardStay c H1 H2) : HardStay c H H2 := fun a o e hd => g a o (h a o e hd) hd
theorem IsRef.hs {H H' : Hp} {a : Addr} {n : Int} (h : IsRef c H a n) (s : HardStay c H H') : IsRef c H' a n := h.imp fun _ e => s _ _ e Hard.r
theorem IsRef.same {H H' : Hp} {a : Addr} {n : Int} (h : IsRef c H a n) (s : Same H H') : IsRef c H' a n := h.imp fun _ e => s _ _ e
theorem IsRefV.hs {H H' : Hp} {v : V} {n : Nat} (h : IsRefV c H v n) (s : HardStay c H H') : IsRefV c H' v n := h.imp fun _ ⟨e, r⟩ => ⟨e, r.hs s⟩
theorem IsVal.hs {H H' : Hp} {v : V} {r : RV} (h : IsVal c H v r) (s : HardStay c H H') : IsVal c H' v r := by
  cases r <;> first
    | exact h
    | exact IsRefV.hs h s
    | (obtain ⟨a, e, dx, h⟩ := h; exact ⟨a, e, dx, s _ _ h Hard.b⟩)

theorem IsVal.same {H H' : Hp} {v : V} {r : RV} (h : IsVal c H v r) (s : Same H H') : IsVal c H' v r := h.hs (.same s)
abbrev VsAt (c : Cs) (H : Hp) : List V → List RV → Prop := Paired (IsVal c H)
theorem VsAt.hs {H H' : Hp} {xs : List V} {rs : List RV} (h : VsAt c H xs rs) (s : HardStay c H H') : VsAt c H' xs rs := Paired.mapP h fun _ _ z => z.hs s
abbrev RefsAt (c : Cs) (H : Hp) : List V → List Nat → Prop := Paired (IsRefV c H)
/-- an object of the store at a, its content at b -/
def ThAt (w : World) (c : Cs) (H : Hp) (a : Addr) (b : Option Addr) : Th → Prop
  | .parts rs => ∃ dx l xs, b = some l ∧ H a = some (.ins c.Parts dx [("held", .ref l)]) ∧ H l = some (.lst xs) ∧ VsAt c H xs rs
  | .table rows => ∃ d rws, b = some d ∧ IsTab c H a d ∧ TabR w H d rws ∧ Paired (fun x r => IsVal c H x.1 r.1 ∧ IsVal c H x.2 r.2) rws rows
  | .inst o fs => ∃ dx ra nd kvs, b = some nd ∧ H a = some (.ins c.Instance dx [("owner", .ref ra), ("named", .ref nd)]) ∧ IsRef c H ra (o : Nat) ∧ H nd = some (.dK kvs) ∧ Paired (fun (kv : Key × V) (f : Str × RV) => kv.1 = .inr f.1 ∧ IsVal c H kv.2 f.2) kvs fs
  | .kin n p ms => ∃ dx pv md kvs, b = some md ∧ H a = some (.ins c.Kin dx [("name", .str n), ("parent", pv), ("methods", .ref md)]) ∧ (match p with | none => pv = .non | some k => IsRefV c H pv k) ∧ H md = some (.dK kvs) ∧ Paired (fun (kv : Key × V) (f : Str × Nat) => kv.1 = .inr f.1 ∧ IsRefV c H kv.2 f.2) kvs ms

  | .clo _ _ _ => False
  | .bound _ _ => False
  | .var _ => False
  | .cur _ => False
def footT (a : Addr) (b : Option Addr) : List Addr := a :: b.toList
theorem TabR.soft {H : Hp} {d : Addr} {rows : List (V × V)} (h : TabR w H d rows) : Soft c H d := by
  obtain ⟨⟨es, D, e0, r⟩, _⟩ := h
  intro o e hd
  rw [e0] at e
  cases e
  rcases hd with ⟨_, z⟩ | ⟨_, _, z⟩ | ⟨_, _, z⟩
  · exact nkO_ne_tup z
  · have z' : HO.ext _ = HO.ins _ _ _ := z
    cases z'
  · have z' : HO.ext _ = HO.ins _ _ _ := z
    cases z'
theorem putR_new {rows : List (V × V)} {k v : V} (h : k ∉ rows.map (·.1)) : putR rows k v = rows ++ [(k, v)] := by
  unfold putR
  rw [if_neg (by rw [rowAt_mem]; exact h)]
theorem ThAt.mono {H H' : Hp} {a : Addr} {b : Option Addr} {t : Th} (h : ThAt w c H a b t) (s : HardStay c H H') (ka : ∀ o, H a = some o → H' a = some o) (kb : ∀ q o, b = some q → H q = some o → H' q = some o) : ThAt w c H' a b t := by
  cases t with
  | parts rs => obtain ⟨dx, l, xs, rfl, e1, e2, e3⟩ := h; exact ⟨dx, l, xs, rfl, ka _ e1, kb _ _ rfl e2, e3.hs s⟩
  | table rows => obtain ⟨d, rws, rfl, ⟨dx, e1⟩, e2, e3⟩ := h; exact ⟨d, rws, rfl, ⟨dx, ka _ e1⟩, e2.mono (fun o e => kb _ _ rfl e) (fun q xs e => s _ _ e (Hard.t xs)), Paired.mapP e3 fun _ _ z => ⟨z.1.hs s, z.2.hs s⟩⟩
  | inst o fs => obtain ⟨dx, ra, nd, kvs, rfl, e1, e2, e3, e4⟩ := h; exact ⟨dx, ra, nd, kvs, rfl, ka _ e1, e2.hs s, kb _ _ rfl e3, Paired.mapP e4 fun _ _ z => ⟨z.1, z.2.hs s⟩⟩
  | kin n p ms => obtain ⟨dx, pv, md, kvs, rfl, e1, e2, e3, e4⟩ := h; exact ⟨dx, pv, md, kvs, rfl, ka _ e1, (by cases p with | none => exact e2 | some k => exact IsRefV.hs e2 s), kb _ _ rfl e3, Paired.mapP e4 fun _ _ z => ⟨z.1, z.2.hs s⟩⟩

  | clo _ _ _ => exact h.elim
  | bound _ _ => exact h.elim
  | var _ => exact h.elim
  | cur _ => exact h.elim
theorem ThAt.same {H H' : Hp} {a : Addr} {b : Option Addr} {t : Th} (h : ThAt w c H a b t) (s : Same H H') : ThAt w c H' a b t := h.mono (.same s) (fun _ e => s _ _ e) fun _ _ _ e => s _ _ e
theorem ThAt.keep {H H' : Hp} {a : Addr} {b : Option Addr} {t : Th} {ps : List Addr} (h : ThAt w c H a b t) (k : Keep ps H H') (s : ∀ p ∈ ps, Soft c H p) (n : ∀ q ∈ footT a b, q ∉ ps) : ThAt w c H' a b t :=
  h.mono (.keep k s) (fun _ e => k _ _ (n _ (by simp [footT])) e) fun q _ hb e => k _ _ (n _ (by simp [footT, hb])) e
/-- the addresses of a store's objects; the store as a model -/
structure SA where
  (y tl ol ll : Addr)
  L : List (Addr × Option Addr)
def footL (L : List (Addr × Option Addr)) : List Addr := L.flatMap fun p => footT p.1 p.2
def SA.foot (x : SA) : List Addr := x.y :: x.tl :: x.ol :: x.ll :: footL x.L
structure SV where
  things : List Th
  out : List Str
  lines : List Str
  taken : Nat
def StR (c : Cs) (H : Hp) (y tl ol ll : Addr) (tk : V) : Prop := ∃ dx, H y = some (.ins c.Store dx [("things", .ref tl), ("output", .ref ol), ("lines", .ref ll), ("taken", tk)])
theorem StR.same {H H' : Hp} {y tl ol ll : Addr} {tk : V} (h : StR c H y tl ol ll tk) (s : Same H H') : StR c H' y tl ol ll tk := h.imp fun _ e => s _ _ e
structure Sto (w : World) (c : Cs) (H : Hp) (x : SA) (S : SV) : Prop where
  st : StR c H x.y x.tl x.ol x.ll (.int (S.taken : Nat))
  et : H x.tl = some (.lst (x.L.map fun p => V.ref p.1))
  eo : H x.ol = some (.lst (S.out.map V.str))
  el : H x.ll = some (.lst (S.lines.map V.str))
  th : Paired (fun p t => ThAt w c H p.1 p.2 t) x.L S.things
  nd : x.foot.Nodup
theorem Sto.same {H H' : Hp} {x : SA} {S : SV} (h : Sto w c H x S) (s : Same H H') : Sto w c H' x S := ⟨h.st.same s, s _ _ h.et, s _ _ h.eo, s _ _ h.el, Paired.mapP h.th fun _ _ z => z.same s, h.nd⟩
theorem paired_mem {α β : Type} {F : α → β → Prop} {xs : List α} {ys : List β} (h : Paired F xs ys) : Paired (fun a b => a ∈ xs ∧ F a b) xs ys := by
  induction h with
  | nil => exact .nil
  | cons r t ih => exact .cons ⟨List.mem_cons_self .., r⟩ (Paired.mapP ih fun _ _ z => ⟨List.mem_cons_of_mem _ z.1, z.2⟩)
theorem mem_footL {L : List (Addr × Option Addr)} {p : Addr × Option Addr} {q : Addr} (h : p ∈ L) (hq : q ∈ footT p.1 p.2) : q ∈ footL L := List.mem_flatMap.mpr ⟨p, h, hq⟩
/-- behind a change elsewhere -/
theorem Sto.keep {H H' : Hp} {x : SA} {S : SV} {ps : List Addr} (h : Sto w c H x S) (k : Keep ps H H') (s : ∀ p ∈ ps, Soft c H p) (n : ∀ q ∈ x.foot, q ∉ ps) : Sto w c H' x S := by
  have m1 : x.y ∈ x.foot := by simp [SA.foot]
  have m2 : x.tl ∈ x.foot := by simp [SA.foot]
  have m3 : x.ol ∈ x.foot := by simp [SA.foot]
  have m4 : x.ll ∈ x.foot := by simp [SA.foot]
  obtain ⟨dx, e⟩ := h.st
  exact ⟨⟨dx, k _ _ (n _ m1) e⟩, k _ _ (n _ m2) h.et, k _ _ (n _ m3) h.eo, k _ _ (n _ m4) h.el,
    Paired.mapP (paired_mem h.th) fun p t z => z.2.keep k s fun q hq => n q (by simp only [SA.foot, List.mem_cons]; exact .inr (.inr (.inr (.inr (mem_footL z.1 hq))))), h.nd⟩
theorem Sto.at {H : Hp} {x : SA} {S : SV} (h : Sto w c H x S) {n : Nat} {t : Th} (e : S.things[n]? = some t) : ∃ a b, x.L[n]? = some (a, b) ∧ ThAt w c H a b t := by
  have hl : x.L.length = S.things.length := Paired.length h.th
  obtain ⟨hi, _⟩ := List.getElem?_eq_some_iff.mp e
  have e1 : x.L[n]? = some x.L[n] := List.getElem?_eq_getElem (by omega)
  obtain ⟨t', h1, h2⟩ := paired_get h.th e1
  rw [e] at h1
  cases h1
  exact ⟨x.L[n].1, x.L[n].2, e1, h2⟩
/-! ### Store(..), its methods -/
def st0 (lines : List Str) : SV := ⟨[.kin "Error" none []], [], lines, 0⟩
def spStore (w : World) (K : PySem.W.Frag) (c : Cs) : Sp := fun vs H Q _ => match vs with
  | [.ref l] => ∃ zs : List Str, Rl K H l (zs.map V.str) ∧ ∀ x H1, Sto w c H1 x (st0 zs) → Same H H1 → (∀ q ∈ x.foot, H q = none) → Q (.ref x.y) H1
  | _ => False
theorem ok_store (A : AtM K c.Store "__init__" "Store.__init__" s_Store___init__ ["self", "lines"]) (T : Txt K mg c) (M_Kin : HasC P w K mg base CX0 c.Kin "Kin" 1 ["self", "name", "parent"] (spMk_Kin K c)) : HasC P w K mg base CX0 c.Store "Store" 3 ["self", "lines"] (spStore w K c) := by
  have Sc := sc_Store___init__
  refine hasC_of T.mk_Store A Sc (fun vs H Q E h => ?_) (fun cdv f A outer s H vs Q E y dx H0 hr h hy hs h0 => ?_)
  · unfold spStore at h; split at h; rfl; cases h
  · unfold spStore at h
    split at h
    · rename_i l
      obtain ⟨zs, r, h⟩ := h
      refine ⟨_, (pss_cons (fs_fld (fe_var 0) (fe_lst (pa_cons (fe_make (k := _) M_Kin (hr.mono (by walk_at "rm")) (by rfl) pass0 (pa_cons (fe_gstr (by rfl) T.g_ERROR) (pa_cons pe_non pa_nil))) pa_nil)) T.pl_things rfl)
      (pss_cons (fs_fld (fe_var 0) (fe_lst pa_nil) T.pl_output rfl)
      (pss_cons (fs_fld (fe_var 0) (pe_callTy call_fListOf (by rfl) T.no_list (by decide +kernel) (pa_cons (fe_var 1) pa_nil)) T.pl_lines rfl)
      (pss_one (fs_fld (fe_var 0) pe_int T.pl_taken rfl))))), ?_⟩
      walk_at "fx0"
      walk_at "ox"
      unfold spMk_Kin
      intro k kdx md H1 nk s1 e1 nmd emd hne
      walk_at "ox"
      intro tl H2 ntl s2 etl
      have ey2 := s2 _ _ (s1 _ _ h0)
      simp only [ey2]
      walk_at "ox"
      have ny2 : tl ≠ y := fun q => by rw [q, s1 _ _ h0] at ntl; cases ntl
      have nky : k ≠ y := fun q => by rw [q, h0] at nk; cases nk
      have nmy : md ≠ y := fun q => by rw [q, h0] at nmd; cases nmd
      intro ol H3 nol s3 eol
      have noy : ol ≠ y := fun q => by rw [q, upd_same] at nol; cases nol
      have not_ : tl ≠ ol := fun q => by rw [← q, upd_ne ny2, etl] at nol; cases nol
      have nolH : H2 ol = none := by rw [upd_ne noy] at nol; exact nol
      have ey3 := s3 _ _ upd_same
      simp only [ey3]
      walk_at "ox"
      refine ⟨_, rl_keep (mk_same ((mk_same ((hs.trans s1).trans s2) hy).trans s3) hy) r, ?_⟩
      intro ll H4 nll s4 ell
      have nly : ll ≠ y := fun q => by rw [q, upd_same] at nll; cases nll
      have nllH : H3 ll = none := by rw [upd_ne nly] at nll; exact nll
      have nlt : tl ≠ ll := fun q => by rw [← q, s3 _ _ ((upd_ne ny2).trans etl)] at nllH; cases nllH
      have nlo : ol ≠ ll := fun q => by rw [← q, eol] at nllH; cases nllH
      have ey4 := s4 _ _ upd_same
      simp only [ey4]
      walk_at "ox"
      have S2 : Same H H2 := (hs.trans s1).trans s2
      have S3 : Same H H3 := (mk_same S2 hy).trans s3
      have S4 : Same H H4 := (mk_same S3 hy).trans s4
      have up : ∀ {q : Addr} {o : HO}, q ≠ y → H2 q = some o → upd H4 y (.ins c.Store dx [("things", .ref tl), ("output", .ref ol), ("lines", .ref ll), ("taken", .int 0)]) q = some o := fun nq e =>
        (upd_ne nq).trans (s4 _ _ ((upd_ne nq).trans (s3 _ _ ((upd_ne nq).trans e))))
      have ek2 := s2 _ _ e1
      have em2 := s2 _ _ emd
      have nkt : k ≠ tl := fun q => by rw [q, etl] at ek2; cases ek2
      have nmt : md ≠ tl := fun q => by rw [q, etl] at em2; cases em2
      have nko : k ≠ ol := fun q => by rw [← q, ek2] at nolH; cases nolH
      have nmo : md ≠ ol := fun q => by rw [← q, em2] at nolH; cases nolH
      have nkl : k ≠ ll := fun q => by rw [← q, s3 _ _ ((upd_ne nky).trans ek2)] at nllH; cases nllH
      have nml : md ≠ ll := fun q => by rw [← q, s3 _ _ ((upd_ne nmy).trans em2)] at nllH; cases nllH
      refine h ⟨y, tl, ol, ll, [(k, some md)]⟩ _ ⟨⟨dx, upd_same⟩, up ny2 etl, (upd_ne noy).trans (s4 _ _ ((upd_ne noy).trans eol)), (upd_ne nly).trans ell, .cons ⟨kdx, .non, md, [], rfl, up nky ek2, rfl, up nmy em2, .nil⟩ .nil, ?_⟩ (mk_same S4 hy) ?_
      · simp only [SA.foot, footL, footT, List.flatMap_cons, List.flatMap_nil, Option.toList_some, List.cons_append, List.nil_append, List.append_nil, List.nodup_cons, List.mem_cons, List.not_mem_nil, or_false, not_or, List.nodup_nil, and_true, not_false_eq_true]
        exact ⟨⟨Ne.symm ny2, Ne.symm noy, Ne.symm nly, Ne.symm nky, Ne.symm nmy⟩, ⟨not_, nlt, Ne.symm nkt, Ne.symm nmt⟩, ⟨nlo, Ne.symm nko, Ne.symm nmo⟩, ⟨Ne.symm nkl, Ne.symm nml⟩, Ne.symm hne⟩
      · intro q hq
        simp only [SA.foot, footL, footT, List.flatMap_cons, List.flatMap_nil, Option.toList_some, List.cons_append, List.nil_append, List.append_nil, List.mem_cons, List.not_mem_nil, or_false] at hq
        rcases hq with rfl | rfl | rfl | rfl | rfl | rfl
        · exact hy
        · exact (hs.trans s1).free ntl
        · exact S2.free nolH
        · exact S3.free nllH
        · exact hs.free nk
        · exact hs.free nmd
    · cases h
end

section
variable {P : Program} {w : World} {K : PySem.W.Frag} {mg : Str → Option Value} {base : Heap} {c : Cs}
/-! ### objects of a store, by their classes -/
def clsT (c : Cs) : Th → Addr
  | .parts _ => c.Parts
  | .table _ => c.Table
  | .inst _ _ => c.Instance
  | .kin _ _ _ => c.Kin

  | .bound _ _ => c.Store
  | .var _ => c.Store
  | .cur _ => c.Store
  | .clo _ _ _ => c.Store

theorem ThAt.ins {H : Hp} {a : Addr} {b : Option Addr} {t : Th} (h : ThAt w c H a b t) : ∃ dx fs, H a = some (.ins (clsT c t) dx fs) := by
  cases t <;> first
    | (obtain ⟨dx, l, xs, _, e, _⟩ := h; exact ⟨_, _, e⟩)
    | (obtain ⟨d, rws, _, ⟨dx, e⟩, _⟩ := h; exact ⟨_, _, e⟩)
    | (obtain ⟨dx, ra, nd, kvs, _, e, _⟩ := h; exact ⟨_, _, e⟩)
    | (obtain ⟨dx, e⟩ := h; exact ⟨_, _, e⟩)
    | (obtain ⟨dx, x, _, e, _⟩ := h; exact ⟨_, _, e⟩)
    | exact h.elim
def tyR (c : Cs) (S : SV) : RV → Value
  | .ob n => match S.things[n]? with
    | some t => .ref (clsT c t)
    | none => .type "NoneType"
  | _ => .type "NoneType"
def WfR (S : SV) (r : RV) : Prop := ∀ n, r = .ob n → n < S.things.length
theorem WfR.num {S : SV} {n : Int} : WfR S (.num n) := fun _ h => by cases h
def kindT : Th → Str
  | .parts _ => "list"
  | .table _ => "map"
  | .inst _ _ => "instance"
  | .kin _ _ _ => "class"
  | _ => "function"
def kindR (S : SV) : RV → Str
  | .nul => "null"
  | .boo _ => "boolean"
  | .num _ => "integer"
  | .txt _ => "text"
  | .bt _ => "function"
  | .ob n => match S.things[n]? with
    | some t => kindT t
    | none => "function"
def SA.add (x : SA) (a : Addr) (b : Option Addr) : SA := { x with L := x.L ++ [(a, b)] }
def SV.add (S : SV) (t : Th) : SV := { S with things := S.things ++ [t] }
theorem foot_add {x : SA} {a : Addr} {b : Option Addr} : (x.add a b).foot = x.foot ++ footT a b := by
  simp [SA.foot, SA.add, footL]
/-- a new object of the store -/
def NewTh (w : World) (c : Cs) (H : Hp) (x : SA) (S : SV) (t : Th) (Q : VK) : Prop := ∀ r a b H1, H r = none → (∀ q ∈ footT a b, H q = none) → Keep [x.tl] H H1 → Sto w c H1 (x.add a b) (S.add t) → IsRef c H1 r (S.things.length : Nat) → Q (.ref r) H1
theorem soft_lst {H : Hp} {p : Addr} {xs : List V} (e : H p = some (.lst xs)) : Soft c H p := fun o h hd => by
  rw [e] at h
  cases h
  rcases hd with ⟨_, h⟩ | hd
  · cases h
  · rcases hd with ⟨_, _, h⟩ | ⟨_, _, h⟩ <;> cases h

theorem soft_dk {H : Hp} {p : Addr} {xs : List (Key × V)} (e : H p = some (.dK xs)) : Soft c H p := fun o h hd => by
  rw [e] at h
  cases h
  rcases hd with ⟨_, h⟩ | hd
  · cases h
  · rcases hd with ⟨_, _, h⟩ | ⟨_, _, h⟩ <;> cases h

theorem Sto.soft_tl {H : Hp} {x : SA} {S : SV} (h : Sto w c H x S) : ∀ p ∈ [x.tl], Soft c H p := fun p m => by
  rw [List.mem_singleton.mp m]; exact soft_lst h.et
theorem mem_add {x : SA} {p : Addr × Option Addr} {q : Addr} (hp : p ∈ x.L) (hq : q ∈ footT p.1 p.2) : q ∈ x.foot := by
  simp only [SA.foot, List.mem_cons]; exact .inr (.inr (.inr (.inr (mem_footL hp hq))))
/-- an object that stands already is put into the store's list -/
theorem Sto.push {H H1 : Hp} {x : SA} {S : SV} {a : Addr} {b : Option Addr} {t : Th} (h : Sto w c H x S) (k : Keep [x.tl] H H1) (e : H1 x.tl = some (.lst ((x.L.map fun p => V.ref p.1) ++ [.ref a]))) (ht : ThAt w c H a b t) (hn : (footT a b).Nodup) (hd : ∀ q ∈ footT a b, q ∉ x.foot) : Sto w c H1 (x.add a b) (S.add t) := by
  have nd := h.nd
  have m2 : x.tl ∈ x.foot := by simp [SA.foot]
  simp only [SA.foot, List.nodup_cons, List.mem_cons, not_or] at nd
  obtain ⟨⟨n1, n2, n3, n4⟩, ⟨n5, n6, n7⟩, ⟨n8, n9⟩, n10, n11⟩ := nd
  obtain ⟨dx, ey⟩ := h.st
  refine ⟨⟨dx, k _ _ (by show x.y ∉ [x.tl]; simpa using n1) ey⟩, by rw [show (x.add a b).tl = x.tl from rfl, e]; simp [SA.add], k _ _ (by show x.ol ∉ [x.tl]; simpa using Ne.symm n5) h.eo, k _ _ (by show x.ll ∉ [x.tl]; simpa using Ne.symm n6) h.el, ?_, ?_⟩
  · refine Paired.snoc (Paired.mapP (paired_mem h.th) fun p t' z => z.2.keep k h.soft_tl fun q hq hm => ?_) (ht.keep k h.soft_tl fun q hq hm => ?_)
    · rw [List.mem_singleton.mp hm] at hq
      exact n7 (mem_footL z.1 hq)
    · rw [List.mem_singleton.mp hm] at hq
      exact hd _ hq m2
  · rw [foot_add, List.nodup_append]
    exact ⟨h.nd, hn, fun p hp q hq e => hd q hq (by rw [← e]; exact hp)⟩
def spMake (w : World) (c : Cs) : Sp := fun vs H Q _ => match vs with
  | [.ref y, .ref a] => ∃ x S b t, y = x.y ∧ Sto w c H x S ∧ ThAt w c H a b t ∧ (footT a b).Nodup ∧ (∀ q ∈ footT a b, q ∉ x.foot) ∧ S.things.length < 99999 ∧
    ∀ r H1, H r = none → Keep [x.tl] H H1 → Sto w c H1 (x.add a b) (S.add t) → IsRef c H1 r (S.things.length : Nat) → Q (.ref r) H1
  | _ => False
theorem ok_make (A : AtM K c.Store "make" "Store.make" s_Store_make ["self", "thing"]) (T : Txt K mg c) (M_Ref : HasC P w K mg base CX0 c.Ref "Ref" 1 ["self", "number"] (spMk_Ref K c)) : HasM P w K mg base CX0 c.Store "make" 3 ["self", "thing"] (spMake w c) := by
  have Sc := sc_Store_make
  refine hasM_of A Sc (fun vs H Q E h => ?_) (fun cdv f A outer s H vs Q E hr h => ?_)
  · unfold spMake at h; split at h; rfl; cases h
  · unfold spMake at h
    split at h
    · rename_i y a
      obtain ⟨x, S, b, t, rfl, hS, ht, hn, hd, hl, h⟩ := h
      have hlen : x.L.length = S.things.length := Paired.length hS.th
      obtain ⟨dx, e0⟩ := hS.st
      have e1 := hS.et
      have ne : x.y ≠ x.tl := fun q => by rw [q, e1] at e0; cases e0
      refine ⟨_, (pss_cons (ps_expr (fe_bm PySem.F.plainAttrs_list PySem.F.slot_list_append PySem.F.type_list_append isLst_ty mt_fAppend (fe_fld (fe_var 0) T.pl_things rfl) (pa_cons (fe_var 1) pa_nil)))
      (pss_one (ps_ret (fe_make (k := _) M_Ref (hr.mono (by walk_at "rm")) (by rfl) pass0 (pa_cons (pe_op op_fSub (pe_callB call_fLen (by rfl) T.no_len (by decide +kernel) (pa_cons (fe_fld (fe_var 0) T.pl_things rfl) pa_nil)) pe_int) pa_nil))))), ?_⟩
      walk_at "fx0"
      walk_at "ox"
      simp only [e0]
      walk_at "ox"
      simp only [e1]
      walk_at "ox"
      have e0' : ∀ o, upd H x.tl o x.y = some (.ins c.Store dx [("things", .ref x.tl), ("output", .ref x.ol), ("lines", .ref x.ll), ("taken", .int (S.taken : Nat))]) := fun o => by rw [upd_ne ne]; exact e0
      refine ⟨len_line' (by rw [List.length_map]; omega), ?_⟩
      simp only [e0']
      walk_at "ox"
      refine ⟨_, rl_l upd_same, ?_⟩
      unfold spMk_Ref
      intro r rdx H1 nr s1 er
      have k1 : Keep [x.tl] H H1 := (Keep.refl.upd (by simp)).trans (Keep.of s1)
      refine h r H1 ?_ k1 (hS.push k1 (s1 _ _ upd_same) ht hn hd) ⟨rdx, ?_⟩
      · by_cases q : r = x.tl
        · rw [q, upd_same] at nr; cases nr
        · rw [upd_ne q] at nr; exact nr
      · rw [er, List.length_append, List.length_map, List.length_cons, List.length_nil]
        have : (((x.L.length + (0 + 1) : Nat) : Int) - 1) = ((S.things.length : Nat) : Int) := by omega
        rw [this]
    · cases h
def spAt (w : World) (c : Cs) : Sp := fun vs H Q _ => match vs with
  | [.ref y, .ref r] => ∃ x S n t, y = x.y ∧ Sto w c H x S ∧ IsRef c H r (n : Nat) ∧ S.things[n]? = some t ∧ ∀ a b, x.L[n]? = some (a, b) → ThAt w c H a b t → Q (.ref a) H
  | _ => False
theorem Sto.num {H : Hp} {x : SA} {S : SV} (h : Sto w c H x S) {n : Nat} {t : Th} (e : S.things[n]? = some t) : ∃ a b, x.L[n]? = some (a, b) ∧ ThAt w c H a b t ∧ atI (x.L.map fun p => V.ref p.1) (n : Nat) = some (.ref a) := by
  obtain ⟨a, b, h1, h2⟩ := h.at e
  exact ⟨a, b, h1, h2, atI_nat (by rw [List.getElem?_map, h1]; rfl)⟩
theorem ok_at (A : AtM K c.Store "at" "Store.at" s_Store_at ["self", "ref"]) (T : Txt K mg c) : HasM P w K mg base CX0 c.Store "at" 1 ["self", "ref"] (spAt w c) := by
  have Sc := sc_Store_at
  refine hasM_of A Sc (fun vs H Q E h => ?_) (fun cdv f A outer s H vs Q E hr h => ?_)
  · unfold spAt at h; split at h; rfl; cases h
  · unfold spAt at h
    split at h
    · rename_i y r
      obtain ⟨x, S, n, t, rfl, hS, ⟨rdx, er⟩, et, h⟩ := h
      obtain ⟨dx, e0⟩ := hS.st
      obtain ⟨a, b, h1, h2, h3⟩ := hS.num et
      refine ⟨_, (pss_one (ps_ret (pe_ix ix_fx (fe_fld (fe_var 0) T.pl_things rfl) (fe_fld (fe_var 1) T.pl_number rfl) (fun _ _ => rfl)))), ?_⟩
      walk_at "fx0"
      walk_at "ox"
      simp only [e0]
      walk_at "ox"
      simp only [er]
      walk_at "ox"
      exact ⟨_, rl_l hS.et, _, h3, h a b h1 h2⟩
    · cases h
def spThing (w : World) (c : Cs) : Sp := fun vs H Q _ => match vs with
  | [.ref y, v] => ∃ x S r, y = x.y ∧ Sto w c H x S ∧ IsVal c H v r ∧ WfR S r ∧
    ∀ tv, tyV2 H tv = some (tyR c S r) → (∀ n t, r = .ob n → S.things[n]? = some t → ∃ a b, tv = .ref a ∧ x.L[n]? = some (a, b) ∧ ThAt w c H a b t) → ((∀ n, r ≠ .ob n) → tv = .non) → Q tv H
  | _ => False
theorem ok_thing (A : At K mg "thing_of" "thing_of" s_thing_of ["store", "value"]) (T : Txt K mg c) (M_Store_at : HasM P w K mg base CX0 c.Store "at" 1 ["self", "ref"] (spAt w c)) : Has P w K mg base CX0 "thing_of" 2 ["store", "value"] (spThing w c) := by
  have Sc := sc_thing_of
  refine has_of A Sc (fun vs H Q E h => ?_) (fun cdv f A outer s H vs Q E hr h => ?_)
  · unfold spThing at h; split at h; rfl; cases h
  · unfold spThing at h
    split at h
    · rename_i y v
      obtain ⟨x, S, r, rfl, hS, hv, hw, h⟩ := h
      obtain ⟨dx0, e0⟩ := hS.st
      refine ⟨_, (pss_cons (ps_if (pt_val (pe_callB (call_fIsiO T.kit) (by rfl) T.no_isinstance (by decide +kernel) (pa_cons (fe_var 1) (pa_cons (pe_glob (v := .ref c.Ref) (by rfl) T.mg_Ref rfl) pa_nil)))) (pss_one (ps_ret (fe_meth M_Store_at T.cl_Store (hr.mono (by walk_at "rm")) pass0 (fe_var 0) (pa_cons (fe_var 1) pa_nil)))) pss_nil)
      (pss_one (ps_ret pe_non))), ?_⟩
      walk_at "fx0"
      cases r with
      | ob n =>
        obtain ⟨a, rfl, dx, e1⟩ := hv
        have hn := hw n rfl
        obtain ⟨t, et⟩ : ∃ t, S.things[n]? = some t := ⟨S.things[n], List.getElem?_eq_getElem hn⟩
        repeat (first | walk_at "oxs" | simp only [e1] | simp only [e0])
        refine ⟨x, S, n, t, rfl, hS, ⟨dx, e1⟩, et, fun a' b h1 h2 => ?_⟩
        obtain ⟨dx2, fs2, e2⟩ := h2.ins
        refine h _ ?_ (fun n' t' e3 e4 => ?_) fun hn => absurd rfl (hn n)
        · show tyV2 H (.ref a') = some (match S.things[n]? with | some t => .ref (clsT c t) | none => .type "NoneType")
          rw [et]
          simp only [tyV2, e2]
        · cases e3
          rw [et] at e4
          cases e4
          exact ⟨a', b, rfl, h1, h2⟩
      | bt z =>
        obtain ⟨a, rfl, dx, e1⟩ := hv
        repeat (first | walk_at "oxs" | simp only [e1])
        exact h _ rfl (fun _ _ z _ => by cases z) fun _ => rfl

      | nul => cases hv; repeat (walk_at "oxs"); exact h _ rfl (fun _ _ z _ => by cases z) fun _ => rfl
      | boo b => cases hv; repeat (walk_at "oxs"); exact h _ rfl (fun _ _ z _ => by cases z) fun _ => rfl
      | num b => cases hv; repeat (walk_at "oxs"); exact h _ rfl (fun _ _ z _ => by cases z) fun _ => rfl
      | txt b => cases hv; repeat (walk_at "oxs"); exact h _ rfl (fun _ _ z _ => by cases z) fun _ => rfl
    · cases h
def spKind (w : World) (c : Cs) : Sp := fun vs H Q _ => match vs with
  | [.ref y, v] => ∃ x S r, y = x.y ∧ Sto w c H x S ∧ IsVal c H v r ∧ WfR S r ∧ Q (.str (kindR S r)) H
  | _ => False
set_option maxHeartbeats 4000000 in
theorem ok_kind (A : At K mg "kind_of" "kind_of" s_kind_of ["store", "value"]) (T : Txt K mg c) (H_thing_of : Has P w K mg base CX0 "thing_of" 2 ["store", "value"] (spThing w c)) : Has P w K mg base CX0 "kind_of" 3 ["store", "value"] (spKind w c) := by
  have Sc := sc_kind_of
  refine has_of A Sc (fun vs H Q E h => ?_) (fun cdv f A outer s H vs Q E hr h => ?_)
  · unfold spKind at h; split at h; rfl; cases h
  · unfold spKind at h
    split at h
    · rename_i y v
      obtain ⟨x, S, r, rfl, hS, hv, hw, h⟩ := h
      refine ⟨_, (pss_cons (ps_if (pt_cmpR op_fIsN (fe_var 1) pe_non (nomark _)) (pss_one (ps_ret pe_str)) pss_nil)
      (pss_cons (ps_if (pt_val (pe_callB (call_fIsiA T.kit) (by rfl) T.no_isinstance (by decide +kernel) (pa_cons (fe_var 1) (pa_cons (fe_ty (n := "bool") (by rfl) T.no_bool (by decide +kernel)) pa_nil)))) (pss_one (ps_ret pe_str)) pss_nil)
      (pss_cons (ps_if (pt_val (pe_callB (call_fIsiA T.kit) (by rfl) T.no_isinstance (by decide +kernel) (pa_cons (fe_var 1) (pa_cons (fe_ty (n := "int") (by rfl) T.no_int (by decide +kernel)) pa_nil)))) (pss_one (ps_ret pe_str)) pss_nil)
      (pss_cons (ps_if (pt_val (pe_callB (call_fIsiA T.kit) (by rfl) T.no_isinstance (by decide +kernel) (pa_cons (fe_var 1) (pa_cons (fe_ty (n := "str") (by rfl) T.no_str (by decide +kernel)) pa_nil)))) (pss_one (ps_ret pe_str)) pss_nil)
      (pss_cons (ps_set (i := 2) Sc.nd rfl (.inl rfl) (fe_call H_thing_of (hr.mono (by walk_at "rm")) (by rfl) pass0 (pa_cons (fe_var 0) (pa_cons (fe_var 1) pa_nil))))
      (pss_cons (ps_if (pt_val (pe_callB (call_fIsiO T.kit) (by rfl) T.no_isinstance (by decide +kernel) (pa_cons (fe_var 2) (pa_cons (pe_glob (v := .ref c.Parts) (by rfl) T.mg_Parts rfl) pa_nil)))) (pss_one (ps_ret pe_str)) pss_nil)
      (pss_cons (ps_if (pt_val (pe_callB (call_fIsiO T.kit) (by rfl) T.no_isinstance (by decide +kernel) (pa_cons (fe_var 2) (pa_cons (pe_glob (v := .ref c.Table) (by rfl) T.mg_Table rfl) pa_nil)))) (pss_one (ps_ret pe_str)) pss_nil)
      (pss_cons (ps_if (pt_val (pe_callB (call_fIsiO T.kit) (by rfl) T.no_isinstance (by decide +kernel) (pa_cons (fe_var 2) (pa_cons (pe_glob (v := .ref c.Instance) (by rfl) T.mg_Instance rfl) pa_nil)))) (pss_one (ps_ret pe_str)) pss_nil)
      (pss_cons (ps_if (pt_val (pe_callB (call_fIsiO T.kit) (by rfl) T.no_isinstance (by decide +kernel) (pa_cons (fe_var 2) (pa_cons (pe_glob (v := .ref c.Kin) (by rfl) T.mg_Kin rfl) pa_nil)))) (pss_one (ps_ret pe_str)) pss_nil)
      (pss_one (ps_ret pe_str))))))))))), ?_⟩
      walk_at "fx0"
      have hv0 := hv
      cases r with
      | ob n =>
        obtain ⟨a, rfl, dx, e1⟩ := hv
        have hn := hw n rfl
        obtain ⟨t, et⟩ : ∃ t, S.things[n]? = some t := ⟨S.things[n], List.getElem?_eq_getElem hn⟩
        repeat (first | walk_at "oxs" | simp only [e1])
        refine ⟨x, S, .ob n, rfl, hS, hv0, hw, fun tv h1 h2 _ => ?_⟩
        obtain ⟨a', b, rfl, h3, h4⟩ := h2 n t rfl et
        obtain ⟨dx2, fs2, e2⟩ := h4.ins
        have hk : kindR S (.ob n) = kindT t := by show (match S.things[n]? with | some t => kindT t | none => "function") = _; rw [et]
        rw [hk] at h
        cases t <;> first
          | exact h4.elim
          | (simp only [clsT] at e2
             repeat (first | walk_at "oxs" | simp only [e2])
             exact h)
      | bt z =>
        obtain ⟨a, rfl, dx, e1⟩ := hv
        repeat (first | walk_at "oxs" | simp only [e1])
        refine ⟨x, S, .bt z, rfl, hS, hv0, hw, fun tv h1 h2 h3 => ?_⟩
        have etv := h3 fun n z => by cases z
        subst etv
        repeat (first | walk_at "oxs" | simp only [e1])
        exact h

      | nul => cases hv; repeat (walk_at "oxs"); exact h
      | boo b => cases hv; repeat (walk_at "oxs"); exact h
      | num b => cases hv; repeat (walk_at "oxs"); exact h
      | txt b => cases hv; repeat (walk_at "oxs"); exact h
    · cases h
theorem kindR_len {S : SV} {r : RV} : (kindR S r).length ≤ 8 := by
  have ht : ∀ t, (kindT t).length ≤ 8 := fun t => by cases t <;> simp only [kindT] <;> decide
  cases r with
  | ob n =>
    show Str.length (match S.things[n]? with | some t => kindT t | none => "function") ≤ 8
    split
    · exact ht _
    · decide
  | _ => show Str.length _ ≤ 8; simp only [kindR]; decide
theorem keys_vs {H : Hp} {rws : List (V × V)} {rows : List (RV × RV)} (h : Paired (fun x r => IsVal c H x.1 r.1 ∧ IsVal c H x.2 r.2) rws rows) : VsAt c H (rws.map fun z => z.1) (rows.map fun z => z.1) := by
  induction h with
  | nil => exact .nil
  | cons a b ih => exact .cons a.1 ih
def rvOf : V → RV
  | .bl b => .boo b
  | .int n => .num n
  | .str z => .txt z
  | _ => .nul
theorem rvOf_is {H : Hp} {v : V} (h : scV v = true) : IsVal c H v (rvOf v) := by cases v <;> first | rfl | cases h
theorem rvOf_nb {v : V} {z : Str} : rvOf v ≠ .bt z := by cases v <;> (intro h; cases h)
theorem vs_rvOf {H : Hp} : ∀ {ks : List V}, (∀ v ∈ ks, scV v = true) → VsAt c H ks (ks.map rvOf)
  | [], _ => .nil
  | a :: t, h => .cons (rvOf_is (h a (List.mem_cons_self ..))) (vs_rvOf fun v m => h v (List.mem_cons_of_mem _ m))
end

section
variable {P : Program} {w : World} {K : PySem.W.Frag} {mg : Str → Option Value} {base : Heap} {c : Cs}
def OutS (c : Cs) (H : Hp) (k m : Str) (E : XK) : Prop := Out c.ScriptError H [("message", .str m), ("kind", .str k)] E
/-! ### new objects -/
theorem ThAt.live {H : Hp} {a : Addr} {b : Option Addr} {t : Th} (h : ThAt w c H a b t) : ∀ q ∈ footT a b, ∃ o, H q = some o := by
  have two_ : ∀ {l : Addr} {o1 o2 : HO}, H a = some o1 → H l = some o2 → ∀ q ∈ footT a (some l), ∃ o, H q = some o := by
    intro l o1 o2 e1 e2 q hq
    simp only [footT, Option.toList_some, List.mem_cons, List.not_mem_nil, or_false] at hq
    rcases hq with rfl | rfl
    · exact ⟨_, e1⟩
    · exact ⟨_, e2⟩
  have one_ : ∀ {o1 : HO}, H a = some o1 → ∀ q ∈ footT a none, ∃ o, H q = some o := by
    intro o1 e1 q hq
    simp only [footT, Option.toList_none, List.mem_cons, List.not_mem_nil, or_false] at hq
    rw [hq]; exact ⟨_, e1⟩
  cases t with
  | parts rs => obtain ⟨dx, l, xs, rfl, e1, e2, e3⟩ := h; exact two_ e1 e2
  | table rows => obtain ⟨d, rws, rfl, ⟨dx, e1⟩, e2, e3⟩ := h; obtain ⟨⟨es, D, e0, r⟩, nd⟩ := e2; exact two_ e1 e0
  | inst o fs => obtain ⟨dx, ra, nd, kvs, rfl, e1, e2, e3, e4⟩ := h; exact two_ e1 e3
  | kin n p ms => obtain ⟨dx, pv, md, kvs, rfl, e1, e2, e3, e4⟩ := h; exact two_ e1 e3

  | clo _ _ _ => exact h.elim
  | bound _ _ => exact h.elim
  | var _ => exact h.elim
  | cur _ => exact h.elim
theorem Sto.live {H : Hp} {x : SA} {S : SV} (h : Sto w c H x S) : ∀ q ∈ x.foot, ∃ o, H q = some o := by
  intro q hq
  simp only [SA.foot, List.mem_cons] at hq
  rcases hq with rfl | rfl | rfl | rfl | hq
  · obtain ⟨dx, e⟩ := h.st; exact ⟨_, e⟩
  · exact ⟨_, h.et⟩
  · exact ⟨_, h.eo⟩
  · exact ⟨_, h.el⟩
  · obtain ⟨p, hp, hq⟩ := List.mem_flatMap.mp hq
    obtain ⟨i, hi, rfl⟩ := List.getElem_of_mem hp
    obtain ⟨t, _, ht⟩ := paired_get h.th (List.getElem?_eq_getElem hi)
    exact ht.live q hq
theorem new_make {H H1 : Hp} {x : SA} {S : SV} {a : Addr} {b : Option Addr} {t : Th} {Q : VK} {E : XK} (hS : Sto w c H x S) (s1 : Same H H1) (ht : ThAt w c H1 a b t) (hn : (footT a b).Nodup) (hf : ∀ q ∈ footT a b, H q = none) (hl : S.things.length < 99999) (h : NewTh w c H x S t Q) : spMake w c [.ref x.y, .ref a] H1 Q E :=
  ⟨x, S, b, t, rfl, hS.same s1, ht, hn, (fun q hq m => by
    obtain ⟨o, e⟩ := hS.live q m
    rw [hf q hq] at e
    cases e), hl, fun r H2 nr k st hr => h r a b H2 (s1.free nr) hf ((Keep.of s1).trans k) st hr⟩
theorem foot_two {a l : Addr} (h : l ≠ a) : (footT a (some l)).Nodup := by simp [footT, Ne.symm h]
theorem free_two {H : Hp} {a l : Addr} (h1 : H a = none) (h2 : H l = none) : ∀ q ∈ footT a (some l), H q = none := by
  intro q hq
  simp only [footT, Option.toList_some, List.mem_cons, List.not_mem_nil, or_false] at hq
  rcases hq with rfl | rfl <;> assumption
theorem foot_one {a : Addr} : (footT a none).Nodup := by simp [footT]
theorem free_one {H : Hp} {a : Addr} (h1 : H a = none) : ∀ q ∈ footT a none, H q = none := by
  intro q hq
  simp only [footT, Option.toList_none, List.mem_cons, List.not_mem_nil, or_false] at hq
  rw [hq]; exact h1
def spCheck (c : Cs) : Sp := fun vs H Q E => match vs with
  | [.int n] => if 1000 < n then OutS c H "SizeError" "too large" E else Q .non H
  | _ => False
theorem ok_check (A : At K mg "check_parts" "check_parts" s_check_parts ["count"]) (T : Txt K mg c) (E_ScriptError : HasE P w K mg base c.ScriptError "ScriptError" 2 (two "kind" "message")) : Has P w K mg base (L2.CX P w) "check_parts" 3 ["count"] (spCheck c) := by
  have Sc := sc_check_parts
  refine hasX_of A Sc (fun vs H Q E h => ?_) (fun cdv f A outer s H vs Q E hr h => ?_)
  · unfold spCheck at h; split at h; rfl; cases h
  · unfold spCheck at h
    split at h
    · rename_i n
      refine ⟨_, (pss_one (ps_if (pt_cmpR op_fGt (fe_var 0) (fe_gint (by rfl) T.g_MOST_PARTS) (nomark _)) (pss_one (fs_raise rfl tk_of E_ScriptError (by decide) (hr.mono (by walk_at "rm")) (by rfl) (pa_cons pe_str (pa_cons pe_str pa_nil)))) pss_nil)), ?_⟩
      walk_at "fx0"
      repeat (walk_at "oxs")
      exact h
    · cases h
def spMkList (w : World) (c : Cs) : Sp := fun vs H Q _ => match vs with
  | [.ref y, .ref l] => ∃ x S xs rs, y = x.y ∧ Sto w c H x S ∧ H l = some (.lst xs) ∧ VsAt c H xs rs ∧ xs.length ≤ 1000 ∧ S.things.length < 99999 ∧ NewTh w c H x S (.parts rs) Q
  | _ => False
theorem ok_mklist (A : At K mg "make_list" "make_list" s_make_list ["store", "values"]) (T : Txt K mg c) (H_check_parts : Has P w K mg base (L2.CX P w) "check_parts" 3 ["count"] (spCheck c)) (M_Parts : HasC P w K mg base CX0 c.Parts "Parts" 1 ["self", "held"] (spMk_Parts K c)) (M_Store_make : HasM P w K mg base CX0 c.Store "make" 3 ["self", "thing"] (spMake w c)) : Has P w K mg base (L2.CX P w) "make_list" 4 ["store", "values"] (spMkList w c) := by
  have Sc := sc_make_list
  refine hasX_of A Sc (fun vs H Q E h => ?_) (fun cdv f A outer s H vs Q E hr h => ?_)
  · unfold spMkList at h; split at h; rfl; cases h
  · unfold spMkList at h
    split at h
    · rename_i y l
      obtain ⟨x, S, xs, rs, rfl, hS, el, hv, hn, hl, h⟩ := h
      obtain ⟨sdx, es⟩ := hS.st
      refine ⟨_, (pss_cons (ps_expr (fe_callX H_check_parts (hr.mono (by walk_at "rm")) (by rfl) tk_of (pa_cons (pe_callB call_fLen (by rfl) T.no_len (by decide +kernel) (pa_cons (fe_var 1) pa_nil)) pa_nil)))
      (pss_one (ps_ret (fe_meth M_Store_make T.cl_Store (hr.mono (by walk_at "rm")) pass0 (fe_var 0) (pa_cons (fe_make (k := _) M_Parts (hr.mono (by walk_at "rm")) (by rfl) pass0 (pa_cons (fe_var 1) pa_nil)) pa_nil))))), ?_⟩
      walk_at "fx0"
      repeat (walk_at "oxs")
      refine ⟨_, rl_l el, ?_⟩
      unfold spCheck
      dsimp only
      rw [if_neg (by omega)]
      repeat (first | walk_at "oxs" | simp only [es])
      refine ⟨_, rl_l el, ?_⟩
      intro a dx p H1 na s1 ea np ep hne
      exact new_make (t := .parts rs) (b := some p) hS s1 ⟨dx, p, xs, rfl, ea, ep, hv.hs (.same s1)⟩ (foot_two hne) (free_two na np) hl h
    · cases h
end

section
variable {P : Program} {w : World} {K : PySem.W.Frag} {mg : Str → Option Value} {base : Heap} {c : Cs}
/-! ### an object of the store changed -/
theorem paired_mk {α β : Type} {F : α → β → Prop} : ∀ {xs : List α} {ys : List β}, xs.length = ys.length → (∀ (i : Nat) (a : α) (b : β), xs[i]? = some a → ys[i]? = some b → F a b) → Paired F xs ys
  | [], [], _, _ => .nil
  | a :: xs, b :: ys, hl, h => .cons (h 0 a b rfl rfl) (paired_mk (by simpa using hl) fun i a b ha hb => h (i + 1) a b ha hb)
  | [], _ :: _, hl, _ => by cases hl
  | _ :: _, [], hl, _ => by cases hl
theorem footL_disj : ∀ {L : List (Addr × Option Addr)} {i j : Nat} {p p' : Addr × Option Addr} {q : Addr}, (footL L).Nodup → L[i]? = some p → L[j]? = some p' → q ∈ footT p.1 p.2 → q ∈ footT p'.1 p'.2 → i = j
  | [], i, _, _, _, _, _, h, _, _, _ => by cases i <;> cases h
  | r :: L, i, j, p, p', q, hn, h1, h2, m1, m2 => by
    have e : footL (r :: L) = footT r.1 r.2 ++ footL L := rfl
    rw [e, List.nodup_append] at hn
    cases i with
    | zero =>
      cases j with
      | zero => rfl
      | succ j =>
        cases h1
        exact absurd rfl (hn.2.2 q m1 q (mem_footL (List.mem_of_getElem? h2) m2))
    | succ i =>
      cases j with
      | zero =>
        cases h2
        exact absurd rfl (hn.2.2 q m2 q (mem_footL (List.mem_of_getElem? h1) m1))
      | succ j => rw [footL_disj hn.2.1 h1 h2 m1 m2]
def SV.setT (S : SV) (n : Nat) (t : Th) : SV := { S with things := S.things.set n t }
theorem Sto.setT {H H1 : Hp} {x : SA} {S : SV} {n : Nat} {a q : Addr} {t : Th} (h : Sto w c H x S) (hx : x.L[n]? = some (a, some q)) (k : Keep [q] H H1) (so : Soft c H q) (ht : ThAt w c H1 a (some q) t) : Sto w c H1 x (S.setT n t) := by
  have nd := h.nd
  have hl : x.L.length = S.things.length := Paired.length h.th
  have mq : q ∈ footL x.L := mem_footL (List.mem_of_getElem? hx) (by simp [footT])
  simp only [SA.foot, List.nodup_cons, List.mem_cons, not_or] at nd
  obtain ⟨⟨n1, n2, n3, n4⟩, ⟨n5, n6, n7⟩, ⟨n8, n9⟩, n10, n11⟩ := nd
  obtain ⟨dx, ey⟩ := h.st
  have no : ∀ {p : Addr}, p ∉ footL x.L → p ∉ [q] := fun hp m => hp (by rw [List.mem_singleton.mp m]; exact mq)
  have so' : ∀ p ∈ [q], Soft c H p := fun p m => by rw [List.mem_singleton.mp m]; exact so
  refine ⟨⟨dx, k _ _ (no n4) ey⟩, k _ _ (no n7) h.et, k _ _ (no n9) h.eo, k _ _ (no n10) h.el, ?_, h.nd⟩
  refine paired_mk (by rw [hl]; exact (List.length_set ..).symm) fun i p t' hp ht' => ?_
  have ht2 : (S.things.set n t)[i]? = some t' := ht'
  rw [List.getElem?_set] at ht2
  by_cases e : n = i
  · subst e
    rw [if_pos rfl] at ht2
    rw [hx] at hp
    cases hp
    split at ht2
    · cases ht2; exact ht
    · cases ht2
  · rw [if_neg e] at ht2
    obtain ⟨t2, e2, h2⟩ := paired_get h.th hp
    rw [ht2] at e2
    cases e2
    refine h2.keep k so' fun z hz m => ?_
    rw [List.mem_singleton.mp m] at hz
    exact e (footL_disj n11 hx hp (by simp [footT]) hz)
theorem footL_mem_set : ∀ {L : List (Addr × Option Addr)} {n : Nat} {p : Addr × Option Addr} {q : Addr}, q ∈ footL (L.set n p) → q ∈ footL L ∨ q ∈ footT p.1 p.2
  | [], _, _, _, h => by simp [footL] at h
  | r :: L, 0, p, q, h => by
    have h : q ∈ footT p.1 p.2 ++ footL L := h
    rcases List.mem_append.mp h with h | h
    · exact .inr h
    · exact .inl (List.mem_append_right _ h)
  | r :: L, n + 1, p, q, h => by
    have h : q ∈ footT r.1 r.2 ++ footL (L.set n p) := h
    rcases List.mem_append.mp h with h | h
    · exact .inl (List.mem_append_left _ h)
    · exact (footL_mem_set h).imp (fun z => List.mem_append_right _ z) id
theorem footL_set : ∀ {L : List (Addr × Option Addr)} {n : Nat} {p p' : Addr × Option Addr}, (footL L).Nodup → L[n]? = some p → (footT p'.1 p'.2).Nodup → (∀ q ∈ footT p'.1 p'.2, q ∈ footT p.1 p.2 ∨ q ∉ footL L) → (footL (L.set n p')).Nodup
  | [], _, _, _, _, h, _, _ => by cases h
  | r :: L, 0, p, p', h, e, hn, hf => by
    cases e
    have h : (footT r.1 r.2 ++ footL L).Nodup := h
    show (footT p'.1 p'.2 ++ footL L).Nodup
    rw [List.nodup_append] at h ⊢
    refine ⟨hn, h.2.1, fun a ha b hb z => ?_⟩
    rcases hf a ha with g | g
    · exact h.2.2 a g b hb z
    · exact g (List.mem_append_right _ (by rw [z]; exact hb))
  | r :: L, n + 1, p, p', h, e, hn, hf => by
    have h : (footT r.1 r.2 ++ footL L).Nodup := h
    have e : L[n]? = some p := e
    show (footT r.1 r.2 ++ footL (L.set n p')).Nodup
    rw [List.nodup_append] at h ⊢
    refine ⟨h.1, footL_set h.2.1 e hn (fun q m => (hf q m).imp id fun g z => g (List.mem_append_right _ z)), fun a ha b hb z => ?_⟩
    rcases footL_mem_set hb with g | g
    · exact h.2.2 a ha b g z
    · rcases hf b g with g | g
      · exact h.2.2 a ha b (mem_footL (List.mem_of_getElem? e) g) z
      · exact g (List.mem_append_left _ (by rw [← z]; exact ha))
def SA.setL (x : SA) (n : Nat) (a : Addr) (b : Option Addr) : SA := { x with L := x.L.set n (a, b) }
/-- an object of the store is changed at its own places, and may get a new second place -/
theorem Sto.mvT {H H1 : Hp} {x : SA} {S : SV} {n : Nat} {a : Addr} {b b' : Option Addr} {t : Th} {ps : List Addr} (h : Sto w c H x S) (hx : x.L[n]? = some (a, b)) (k : Keep ps H H1) (hps : ∀ p ∈ ps, p ∈ footT a b) (so : ∀ p ∈ ps, Soft c H p) (ht : ThAt w c H1 a b' t) (hn : (footT a b').Nodup) (hf : ∀ q ∈ footT a b', q ∈ footT a b ∨ H q = none) :
    Sto w c H1 (x.setL n a b') (S.setT n t) ∧ ∀ q ∈ (x.setL n a b').foot, q ∈ x.foot ∨ H q = none := by
  have nd := h.nd
  have lv := h.live
  have hl : x.L.length = S.things.length := Paired.length h.th
  have mq : ∀ p ∈ ps, p ∈ footL x.L := fun p m => mem_footL (List.mem_of_getElem? hx) (hps p m)
  simp only [SA.foot, List.nodup_cons, List.mem_cons, not_or] at nd
  obtain ⟨⟨n1, n2, n3, n4⟩, ⟨n5, n6, n7⟩, ⟨n8, n9⟩, n10, n11⟩ := nd
  obtain ⟨dx, ey⟩ := h.st
  have no : ∀ {p : Addr}, p ∉ footL x.L → p ∉ ps := fun hp m => hp (mq _ m)
  have hfx : ∀ q ∈ footL (x.L.set n (a, b')), q ∈ footL x.L ∨ H q = none := fun q m => by
    rcases footL_mem_set m with g | g
    · exact .inl g
    · exact (hf q g).imp (fun z => mem_footL (List.mem_of_getElem? hx) z) id
  have off : ∀ {q : Addr} {o : HO}, q ∉ footL x.L → H q = some o → q ∉ footL (x.L.set n (a, b')) := fun g e m => by
    rcases hfx _ m with z | z
    · exact g z
    · rw [e] at z; cases z
  have em : (x.L.set n (a, b')).map (fun p => V.ref p.1) = x.L.map fun p => V.ref p.1 := by
    rw [List.map_set]
    refine List.ext_getElem? fun i => ?_
    rw [List.getElem?_set]
    split
    · rename_i q
      subst q
      rw [List.getElem?_map, hx]
      rw [List.length_map, if_pos (List.getElem?_eq_some_iff.mp hx).1]; rfl
    · rfl
  refine ⟨⟨⟨dx, k _ _ (no n4) ey⟩, ?_, k _ _ (no n9) h.eo, k _ _ (no n10) h.el, ?_, ?_⟩, fun q m => ?_⟩
  · show H1 x.tl = some (.lst ((x.L.set n (a, b')).map fun p => V.ref p.1))
    rw [em]; exact k _ _ (no n7) h.et
  · refine paired_mk (by show (x.L.set n (a, b')).length = (S.things.set n t).length; rw [List.length_set, List.length_set, hl]) fun i p t' hp ht' => ?_
    have ht2 : (S.things.set n t)[i]? = some t' := ht'
    have hp2 : (x.L.set n (a, b'))[i]? = some p := hp
    rw [List.getElem?_set] at ht2 hp2
    by_cases e : n = i
    · subst e
      rw [if_pos rfl] at ht2 hp2
      split at ht2
      · split at hp2
        · cases ht2; cases hp2; exact ht
        · cases hp2
      · cases ht2
    · rw [if_neg e] at ht2 hp2
      obtain ⟨t2, e2, h2⟩ := paired_get h.th hp2
      rw [ht2] at e2
      cases e2
      exact h2.keep k so fun z hz m => e (footL_disj n11 hx hp2 (hps z m) hz)
  · obtain ⟨_, ey1⟩ := lv x.y (by simp [SA.foot])
    simp only [SA.foot, SA.setL, List.nodup_cons, List.mem_cons, not_or]
    exact ⟨⟨n1, n2, n3, off n4 ey⟩, ⟨n5, n6, off n7 h.et⟩, ⟨n8, off n9 h.eo⟩, off n10 h.el, footL_set n11 hx hn fun q m => (hf q m).imp id fun z g => by
      obtain ⟨o, eo⟩ := lv q (by simp [SA.foot, g])
      rw [z] at eo; cases eo⟩
  · simp only [SA.foot, SA.setL, List.mem_cons] at m ⊢
    rcases m with m | m | m | m | m
    · exact .inl (.inl m)
    · exact .inl (.inr (.inl m))
    · exact .inl (.inr (.inr (.inl m)))
    · exact .inl (.inr (.inr (.inr (.inl m))))
    · exact (hfx q m).imp (fun z => .inr (.inr (.inr (.inr z)))) id
theorem setL_foot {x : SA} {n : Nat} {a q : Addr} {b : Option Addr} (h : q ∈ (x.setL n a b).foot) : q ∈ x.foot ∨ q ∈ footT a b := by
  simp only [SA.foot, SA.setL, List.mem_cons] at h ⊢
  rcases h with m | m | m | m | m
  · exact .inl (.inl m)
  · exact .inl (.inr (.inl m))
  · exact .inl (.inr (.inr (.inl m)))
  · exact .inl (.inr (.inr (.inr (.inl m))))
  · exact (footL_mem_set m).imp (fun z => .inr (.inr (.inr (.inr z)))) id
end

section
variable {P : Program} {w : World} {K : PySem.W.Frag} {mg : Str → Option Value} {base : Heap} {c : Cs}
/-! ### the law's state, the store and the law's own things, apart from each other -/
structure Wd (K : PySem.W.Frag) (w : World) (c : Cs) (H0 : Hp) (s sc : Addr) (ns : List Int) (x : SA) (S : SV) (G : Hp → Prop) (gf : List Addr) (H : Hp) : Prop where
  dr : Dr K H0 s sc ns H
  st : Sto w c H x S
  g : G H
  gm : ∀ H H', G H → HardStay c H H' → (∀ q ∈ gf, ∀ o, H q = some o → H' q = some o) → G H'
  gl : ∀ q ∈ gf, ∃ o, H q = some o
  nd : (s :: (x.foot ++ gf)).Nodup
  fr : ∀ q ∈ s :: (x.foot ++ gf), H0 q = none
section
variable {H0 : Hp} {s sc : Addr} {ns : List Int} {x : SA} {S : SV} {G : Hp → Prop} {gf : List Addr} {H H1 : Hp}
theorem Wd.s_foot (W : Wd K w c H0 s sc ns x S G gf H) : ∀ {q : Addr}, q ∈ x.foot → s ≠ q := fun {q} m e => (List.nodup_cons.mp W.nd).1 (by rw [e]; exact List.mem_append_left _ m)
theorem Wd.s_gf (W : Wd K w c H0 s sc ns x S G gf H) : ∀ {q : Addr}, q ∈ gf → s ≠ q := fun {q} m e => (List.nodup_cons.mp W.nd).1 (by rw [e]; exact List.mem_append_right _ m)
theorem Wd.f_gf (W : Wd K w c H0 s sc ns x S G gf H) : ∀ {p q : Addr}, p ∈ x.foot → q ∈ gf → p ≠ q := fun {p q} m n e => (List.nodup_append.mp (List.nodup_cons.mp W.nd).2).2.2 p m q n e
theorem Wd.f0 (W : Wd K w c H0 s sc ns x S G gf H) : ∀ {q : Addr}, q ∈ x.foot → H0 q = none := fun m => W.fr _ (List.mem_cons_of_mem _ (List.mem_append_left _ m))
theorem Wd.g0 (W : Wd K w c H0 s sc ns x S G gf H) : ∀ {q : Addr}, q ∈ gf → H0 q = none := fun m => W.fr _ (List.mem_cons_of_mem _ (List.mem_append_right _ m))
theorem Wd.s_soft (W : Wd K w c H0 s sc ns x S G gf H) : ∀ p ∈ [s], Soft c H p := fun p m => by
  obtain ⟨a, k, e, _⟩ := W.dr.st
  rw [List.mem_singleton.mp m]; exact soft_lst e
theorem Wd.live (W : Wd K w c H0 s sc ns x S G gf H) : ∀ {q : Addr}, q ∈ s :: (x.foot ++ gf) → ∃ o, H q = some o := fun {q} m => by
  rcases List.mem_cons.mp m with rfl | m
  · obtain ⟨a, k, e, _⟩ := W.dr.st; exact ⟨_, e⟩
  · rcases List.mem_append.mp m with m | m
    · exact W.st.live q m
    · exact W.gl q m
theorem Wd.gkeep (W : Wd K w c H0 s sc ns x S G gf H) {ps : List Addr} (k : Keep ps H H1) (so : ∀ p ∈ ps, Soft c H p) (n : ∀ q ∈ gf, q ∉ ps) : G H1 ∧ ∀ q ∈ gf, ∃ o, H1 q = some o :=
  ⟨W.gm _ _ W.g (.keep k so) fun q m o e => k _ _ (n q m) e, fun q m => (W.gl q m).imp fun o e => k _ _ (n q m) e⟩
theorem Wd.draw (W : Wd K w c H0 s sc ns x S G gf H) (k : Keep [s] H H1) (d : Dr K H0 s sc ns H1) : Wd K w c H0 s sc ns x S G gf H1 := by
  obtain ⟨g1, g2⟩ := W.gkeep k W.s_soft fun q m n => W.s_gf m (List.mem_singleton.mp n).symm
  exact ⟨d, W.st.keep k W.s_soft fun q m n => W.s_foot m (List.mem_singleton.mp n).symm, g1, W.gm, g2, W.nd, W.fr⟩
theorem Wd.same (W : Wd K w c H0 s sc ns x S G gf H) (k : Same H H1) : Wd K w c H0 s sc ns x S G gf H1 :=
  ⟨W.dr.same k, W.st.same k, W.gm _ _ W.g (.same k) fun q _ o e => k _ _ e, W.gm, fun q m => (W.gl q m).imp fun o e => k _ _ e, W.nd, W.fr⟩
theorem Wd.make (W : Wd K w c H0 s sc ns x S G gf H) {a : Addr} {b : Option Addr} {t : Th} (hf : ∀ q ∈ footT a b, H q = none) (k : Keep [x.tl] H H1) (st : Sto w c H1 (x.add a b) (S.add t)) : Wd K w c H0 s sc ns (x.add a b) (S.add t) G gf H1 := by
  have mt : x.tl ∈ x.foot := by simp [SA.foot]
  have n0 : ∀ q ∈ footT a b, q ∉ s :: (x.foot ++ gf) := fun q hq m => by obtain ⟨o, e⟩ := W.live m; rw [hf q hq] at e; cases e
  obtain ⟨g1, g2⟩ := W.gkeep k W.st.soft_tl fun q m n => W.f_gf mt m (List.mem_singleton.mp n).symm
  refine ⟨W.dr.keep k (fun n => W.s_foot mt (List.mem_singleton.mp n)) fun q n => by rw [List.mem_singleton.mp n]; exact W.f0 mt, st, g1, W.gm, g2, ?_, ?_⟩
  · have nd2 := st.nd
    rw [foot_add] at nd2 ⊢
    rw [List.nodup_cons, List.nodup_append]
    refine ⟨fun m => ?_, nd2, (List.nodup_append.mp (List.nodup_cons.mp W.nd).2).2.1, fun p hp q hq e => ?_⟩
    · rcases List.mem_append.mp m with m | m
      · rcases List.mem_append.mp m with m | m
        · exact W.s_foot m rfl
        · exact n0 s m (List.mem_cons_self ..)
      · exact W.s_gf m rfl
    · rcases List.mem_append.mp hp with hp | hp
      · exact W.f_gf hp hq e
      · exact n0 p hp (by rw [e]; exact List.mem_cons_of_mem _ (List.mem_append_right _ hq))
  · intro q m
    rw [foot_add] at m
    rcases List.mem_cons.mp m with rfl | m
    · exact W.fr _ (List.mem_cons_self ..)
    · rcases List.mem_append.mp m with m | m
      · rcases List.mem_append.mp m with m | m
        · exact W.f0 m
        · exact W.dr.sm.free (hf q m)
      · exact W.g0 m
theorem Wd.set (W : Wd K w c H0 s sc ns x S G gf H) {S' : SV} {q : Addr} (hq : q ∈ x.foot) (k : Keep [q] H H1) (so : Soft c H q) (st : Sto w c H1 x S') : Wd K w c H0 s sc ns x S' G gf H1 := by
  obtain ⟨g1, g2⟩ := W.gkeep k (fun p m => by rw [List.mem_singleton.mp m]; exact so) fun p m n => W.f_gf hq m (List.mem_singleton.mp n).symm
  exact ⟨W.dr.keep k (fun n => W.s_foot hq (List.mem_singleton.mp n)) fun p n => by rw [List.mem_singleton.mp n]; exact W.f0 hq, st, g1, W.gm, g2, W.nd, W.fr⟩
/-- the law's own things are changed at q, its own -/
theorem Wd.own (W : Wd K w c H0 s sc ns x S G gf H) {G' : Hp → Prop} {q : Addr} (hq : q ∈ gf) (k : Keep [q] H H1) (so : Soft c H q) (l : ∃ o, H1 q = some o) (g : G' H1) (gm : ∀ H H', G' H → HardStay c H H' → (∀ q ∈ gf, ∀ o, H q = some o → H' q = some o) → G' H') : Wd K w c H0 s sc ns x S G' gf H1 := by
  refine ⟨W.dr.keep k (fun n => W.s_gf hq (List.mem_singleton.mp n)) fun p n => by rw [List.mem_singleton.mp n]; exact W.g0 hq, W.st.keep k (fun p m => by rw [List.mem_singleton.mp m]; exact so) fun p m n => W.f_gf m hq (List.mem_singleton.mp n), g, gm, fun p m => ?_, W.nd, W.fr⟩
  by_cases e : p = q
  · rw [e]; exact l
  · exact (W.gl p m).imp fun o z => k _ _ (by simpa using e) z
/-- the law's own things grow by new ones -/
theorem Wd.grow (W : Wd K w c H0 s sc ns x S G gf H) {G' : Hp → Prop} {qs : List Addr} (k : Same H H1) (nq : ∀ q ∈ qs, H q = none) (hn : qs.Nodup) (l : ∀ q ∈ qs, ∃ o, H1 q = some o) (g : G' H1) (gm : ∀ H H', G' H → HardStay c H H' → (∀ q ∈ gf ++ qs, ∀ o, H q = some o → H' q = some o) → G' H') : Wd K w c H0 s sc ns x S G' (gf ++ qs) H1 := by
  have n0 : ∀ q ∈ qs, q ∉ s :: (x.foot ++ gf) := fun q hq m => by obtain ⟨o, e⟩ := W.live m; rw [nq q hq] at e; cases e
  refine ⟨W.dr.same k, W.st.same k, g, gm, fun q m => ?_, ?_, fun q m => ?_⟩
  · rcases List.mem_append.mp m with m | m
    · exact (W.gl q m).imp fun o e => k _ _ e
    · exact l q m
  · have e : s :: (x.foot ++ (gf ++ qs)) = (s :: (x.foot ++ gf)) ++ qs := by simp
    rw [e, List.nodup_append]
    exact ⟨W.nd, hn, fun p hp q hq z => n0 q hq (by rw [← z]; exact hp)⟩
  · have e : s :: (x.foot ++ (gf ++ qs)) = (s :: (x.foot ++ gf)) ++ qs := by simp
    rw [e] at m
    rcases List.mem_append.mp m with m | m
    · exact W.fr q m
    · exact W.dr.sm.free (nq q m)
/-- the store is changed at its own places, and may get new ones -/
theorem Wd.mv (W : Wd K w c H0 s sc ns x S G gf H) {x' : SA} {S' : SV} {ps : List Addr} (k : Keep ps H H1) (hps : ∀ p ∈ ps, p ∈ x.foot) (so : ∀ p ∈ ps, Soft c H p) (st : Sto w c H1 x' S') (hf : ∀ q ∈ x'.foot, q ∈ x.foot ∨ H q = none) : Wd K w c H0 s sc ns x' S' G gf H1 := by
  obtain ⟨g1, g2⟩ := W.gkeep k so fun p m n => W.f_gf (hps p n) m rfl
  have n0 : ∀ {q : Addr}, H q = none → q ∉ s :: (x.foot ++ gf) := fun e m => by obtain ⟨o, z⟩ := W.live m; rw [e] at z; cases z
  refine ⟨W.dr.keep k (fun n => W.s_foot (hps _ n) rfl) fun p n => W.f0 (hps p n), st, g1, W.gm, g2, ?_, ?_⟩
  · rw [List.nodup_cons, List.nodup_append]
    refine ⟨fun m => ?_, st.nd, (List.nodup_append.mp (List.nodup_cons.mp W.nd).2).2.1, fun p hp q hq e => ?_⟩
    · rcases List.mem_append.mp m with m | m
      · rcases hf _ m with z | z
        · exact W.s_foot z rfl
        · exact n0 z (List.mem_cons_self ..)
      · exact W.s_gf m rfl
    · rcases hf _ hp with z | z
      · exact W.f_gf z hq e
      · exact n0 z (by rw [e]; exact List.mem_cons_of_mem _ (List.mem_append_right _ hq))
  · intro q m
    rcases List.mem_cons.mp m with rfl | m
    · exact W.fr _ (List.mem_cons_self ..)
    · rcases List.mem_append.mp m with m | m
      · rcases hf _ m with z | z
        · exact W.f0 z
        · exact W.dr.sm.free z
      · exact W.g0 m
/-- the law's own things are changed at their places, and may get new ones -/
theorem Wd.mvG (W : Wd K w c H0 s sc ns x S G gf H) {G' : Hp → Prop} {gf' ps : List Addr} (k : Keep ps H H1) (hps : ∀ p ∈ ps, p ∈ gf) (so : ∀ p ∈ ps, Soft c H p) (hn : gf'.Nodup) (hf : ∀ q ∈ gf', q ∈ gf ∨ H q = none) (l : ∀ q ∈ gf', ∃ o, H1 q = some o) (g : G' H1) (gm : ∀ H H', G' H → HardStay c H H' → (∀ q ∈ gf', ∀ o, H q = some o → H' q = some o) → G' H') : Wd K w c H0 s sc ns x S G' gf' H1 := by
  have n0 : ∀ {q : Addr}, H q = none → q ∉ s :: (x.foot ++ gf) := fun e m => by obtain ⟨o, z⟩ := W.live m; rw [e] at z; cases z
  refine ⟨W.dr.keep k (fun n => W.s_gf (hps _ n) rfl) fun p n => W.g0 (hps p n), W.st.keep k so fun p m n => W.f_gf m (hps _ n) rfl, g, gm, l, ?_, ?_⟩
  · rw [List.nodup_cons, List.nodup_append]
    refine ⟨fun m => ?_, W.st.nd, hn, fun p hp q hq e => ?_⟩
    · rcases List.mem_append.mp m with m | m
      · exact W.s_foot m rfl
      · rcases hf _ m with z | z
        · exact W.s_gf z rfl
        · exact n0 z (List.mem_cons_self ..)
    · rcases hf _ hq with z | z
      · exact W.f_gf hp z e
      · exact n0 z (by rw [← e]; exact List.mem_cons_of_mem _ (List.mem_append_left _ hp))
  · intro q m
    rcases List.mem_cons.mp m with rfl | m
    · exact W.fr _ (List.mem_cons_self ..)
    · rcases List.mem_append.mp m with m | m
      · exact W.f0 m
      · rcases hf _ m with z | z
        · exact W.g0 z
        · exact W.dr.sm.free z
/-- a change at places that are nobody's -/
theorem Wd.junk (W : Wd K w c H0 s sc ns x S G gf H) {ps : List Addr} (k : Keep ps H H1) (so : ∀ p ∈ ps, Soft c H p) (h0 : ∀ p ∈ ps, H0 p = none) (n : ∀ p ∈ ps, p ∉ s :: (x.foot ++ gf)) : Wd K w c H0 s sc ns x S G gf H1 := by
  obtain ⟨g1, g2⟩ := W.gkeep k so fun q m z => n q z (List.mem_cons_of_mem _ (List.mem_append_right _ m))
  exact ⟨W.dr.keep k (fun z => n _ z (List.mem_cons_self ..)) h0, W.st.keep k so fun q m z => n q z (List.mem_cons_of_mem _ (List.mem_append_left _ m)), g1, W.gm, g2, W.nd, W.fr⟩
/-- things that stand already become the law's own -/
theorem Wd.adopt (W : Wd K w c H0 s sc ns x S G gf H) {G' : Hp → Prop} {gf' : List Addr} (g : G' H) (gm : ∀ H H', G' H → HardStay c H H' → (∀ q ∈ gf', ∀ o, H q = some o → H' q = some o) → G' H') (hg : ∀ q ∈ gf', q ∈ gf ∨ (q ∉ s :: (x.foot ++ gf) ∧ H0 q = none ∧ ∃ o, H q = some o)) (hn : gf'.Nodup) : Wd K w c H0 s sc ns x S G' gf' H := by
  refine ⟨W.dr, W.st, g, gm, fun q m => ?_, ?_, fun q m => ?_⟩
  · rcases hg q m with z | ⟨_, _, z⟩
    · exact W.gl q z
    · exact z
  · rw [List.nodup_cons, List.nodup_append]
    refine ⟨fun m => ?_, W.st.nd, hn, fun p hp q hq e => ?_⟩
    · rcases List.mem_append.mp m with m | m
      · exact W.s_foot m rfl
      · rcases hg _ m with z | ⟨z, _⟩
        · exact W.s_gf z rfl
        · exact z (List.mem_cons_self ..)
    · rcases hg _ hq with z | ⟨z, _⟩
      · exact W.f_gf hp z e
      · exact z (by rw [← e]; exact List.mem_cons_of_mem _ (List.mem_append_left _ hp))
  · rcases List.mem_cons.mp m with rfl | m
    · exact W.fr _ (List.mem_cons_self ..)
    · rcases List.mem_append.mp m with m | m
      · exact W.f0 m
      · rcases hg _ m with z | ⟨_, z, _⟩
        · exact W.g0 z
        · exact z
/-- an object that stands already is put into the store -/
theorem Wd.make2 (W : Wd K w c H0 s sc ns x S G gf H) {a : Addr} {b : Option Addr} {t : Th} (hf : ∀ q ∈ footT a b, q ∉ s :: (x.foot ++ gf)) (h0 : ∀ q ∈ footT a b, H0 q = none) (k : Keep [x.tl] H H1) (st : Sto w c H1 (x.add a b) (S.add t)) : Wd K w c H0 s sc ns (x.add a b) (S.add t) G gf H1 := by
  have mt : x.tl ∈ x.foot := by simp [SA.foot]
  obtain ⟨g1, g2⟩ := W.gkeep k W.st.soft_tl fun q m n => W.f_gf mt m (List.mem_singleton.mp n).symm
  refine ⟨W.dr.keep k (fun n => W.s_foot mt (List.mem_singleton.mp n)) fun q n => by rw [List.mem_singleton.mp n]; exact W.f0 mt, st, g1, W.gm, g2, ?_, ?_⟩
  · have nd2 := st.nd
    rw [foot_add] at nd2 ⊢
    rw [List.nodup_cons, List.nodup_append]
    refine ⟨fun m => ?_, nd2, (List.nodup_append.mp (List.nodup_cons.mp W.nd).2).2.1, fun p hp q hq e => ?_⟩
    · rcases List.mem_append.mp m with m | m
      · rcases List.mem_append.mp m with m | m
        · exact W.s_foot m rfl
        · exact hf s m (List.mem_cons_self ..)
      · exact W.s_gf m rfl
    · rcases List.mem_append.mp hp with hp | hp
      · exact W.f_gf hp hq e
      · exact hf p hp (by rw [e]; exact List.mem_cons_of_mem _ (List.mem_append_right _ hq))
  · intro q m
    rw [foot_add] at m
    rcases List.mem_cons.mp m with rfl | m
    · exact W.fr _ (List.mem_cons_self ..)
    · rcases List.mem_append.mp m with m | m
      · rcases List.mem_append.mp m with m | m
        · exact W.f0 m
        · exact h0 q m
      · exact W.g0 m
/-- the same, told otherwise -/
theorem Wd.as (W : Wd K w c H0 s sc ns x S G gf H) {G' : Hp → Prop} {gf' : List Addr} (p : gf.Perm gf') (g : ∀ H, G H → G' H) (gm : ∀ H H', G' H → HardStay c H H' → (∀ q ∈ gf', ∀ o, H q = some o → H' q = some o) → G' H') : Wd K w c H0 s sc ns x S G' gf' H :=
  ⟨W.dr, W.st, g _ W.g, gm, fun q m => W.gl q (p.mem_iff.mpr m), ((p.append_left x.foot).cons s).nodup_iff.mp W.nd, fun q m => W.fr q (((p.append_left x.foot).cons s).mem_iff.mpr m)⟩
end
end

section
variable {P : Program} {w : World} {K : PySem.W.Frag} {mg : Str → Option Value} {base : Heap} {c : Cs}
def spPick2 (K : PySem.W.Frag) : Sp := fun vs H Q _ => match vs with
  | [.ref s, r] => ∃ H0 sc ns xs, Dr K H0 s sc ns H ∧ (match r with | .ref a => ∀ H1, Keep [s] H H1 → Rl K H1 a xs | .str z => xs = z.cps.toList.map (fun ch => V.str ⟨#[ch]⟩) | _ => False) ∧ 0 < xs.length ∧ xs.length ≤ 1000 ∧ ∀ H1 v, Keep [s] H H1 → Dr K H0 s sc ns H1 → v ∈ xs → Q v H1
  | _ => False
theorem ok_pick2 (A : At K mg "_law_pick" "_law_pick" s_law_pick ["state", "row"]) (T : Txt K mg c) (H_law_draw : Has P w K mg base CX0 "_law_draw" 2 ["state", "many"] (spDraw K)) : Has P w K mg base CX0 "_law_pick" 3 ["state", "row"] (spPick2 K) := by
  have Sc := sc_law_pick
  refine has_of A Sc (fun vs H Q E h => ?_) (fun cdv f A outer s H vs Q E hr h => ?_)
  · unfold spPick2 at h; split at h; rfl; cases h
  · unfold spPick2 at h
    split at h
    · rename_i st r
      obtain ⟨H0, sc, ns, xs, D, hr1, h0, h1, kk⟩ := h
      refine ⟨_, (pss_one (ps_ret (pe_ix ix_fx (fe_var 1) (fe_call H_law_draw (hr.mono (by walk_at "rm")) (by rfl) pass0 (pa_cons (fe_var 0) (pa_cons (pe_callB call_fLen (by rfl) T.no_len (by decide +kernel) (pa_cons (fe_var 1) pa_nil)) pa_nil))) (fun _ _ => rfl)))), ?_⟩
      walk_at "fx0"
      split at hr1
      · rename_i r
        walk_at "fx"
        refine ⟨_, hr1 H Keep.refl, ?_⟩
        unfold spDraw
        refine ⟨H0, sc, ns, D, by omega, by omega, fun H1 d kp D1 d0 d1 => ?_⟩
        obtain ⟨v, hv, ev⟩ := at_vs (xs := xs) d0 d1
        exact ⟨_, hr1 H1 kp, v, ev, kk H1 v kp D1 hv⟩
      · rename_i z
        have hz : z.length = xs.length := by rw [hr1, List.length_map]; exact Array.length_toList.symm
        have hl : z.length ≤ sizeLine := by
          have := len_line' (n := z.length) (by omega)
          omega
        walk_at "fx"
        refine ⟨hl, ?_⟩
        unfold spDraw
        refine ⟨H0, sc, ns, D, by omega, by omega, fun H1 d kp D1 d0 d1 => ?_⟩
        obtain ⟨n, rfl⟩ := Int.eq_ofNat_of_zero_le d0
        have hn : n < z.cps.toList.length := by
          have d1' : (n : Int) < (z.length : Nat) := d1
          have e : z.cps.toList.length = z.length := Array.length_toList
          rw [e]
          omega
        have ec : z.cps.toList[n]? = some z.cps.toList[n] := List.getElem?_eq_getElem hn
        refine ⟨hl, _, atI_nat ec, kk H1 _ kp D1 ?_⟩
        rw [hr1]
        exact List.mem_map_of_mem (List.getElem_mem hn)
      · exact hr1.elim
    · cases h
end

section
variable {P : Program} {w : World} {K : PySem.W.Frag} {mg : Str → Option Value} {base : Heap} {c : Cs}
/-! ### values compared; arguments checked -/
theorem OutS.same {H H' : Hp} {k m : Str} {E : XK} (h : OutS c H k m E) (s : Same H H') : OutS c H' k m E := fun d H2 nd s2 e => h d H2 (s.free nd) (s.trans s2) e
def spEqual (c : Cs) : Sp := fun vs H Q _ => match vs with
  | [x, y] => ∃ r t, IsVal c H x r ∧ IsVal c H y t ∧ Q (.bl (decide (r = t))) H
  | _ => False
set_option maxHeartbeats 4000000 in
theorem ok_equal (A : At K mg "equal" "equal" s_equal ["x", "y"]) (T : Txt K mg c) : Has P w K mg base CX0 "equal" 1 ["x", "y"] (spEqual c) := by
  have Sc := sc_equal
  refine has_of A Sc (fun vs H Q E h => ?_) (fun cdv f A outer s H vs Q E hr h => ?_)
  · unfold spEqual at h; split at h; rfl; cases h
  · unfold spEqual at h
    split at h
    · rename_i x y
      obtain ⟨r, t, hx, hy, h⟩ := h
      refine ⟨_, (pss_cons (ps_if (PW.pt (pw_or (pt_cmpR op_fIsN (fe_var 0) pe_non (nomark _)) (pw_or1 (pt_cmpR op_fIsN (fe_var 1) pe_non (nomark _))))) (pss_one (ps_ret (pe_and (pe_cmpR op_fIsN (fe_var 0) pe_non (nomark _)) (pe_one (pe_cmpR op_fIsN (fe_var 1) pe_non (nomark _)))))) pss_nil)
      (pss_cons (ps_if (PW.pt (pw_or (pt_val (pe_callB (call_fIsiA T.kit) (by rfl) T.no_isinstance (by decide +kernel) (pa_cons (fe_var 0) (pa_cons (fe_ty (n := "bool") (by rfl) T.no_bool (by decide +kernel)) pa_nil)))) (pw_or1 (pt_val (pe_callB (call_fIsiA T.kit) (by rfl) T.no_isinstance (by decide +kernel) (pa_cons (fe_var 1) (pa_cons (fe_ty (n := "bool") (by rfl) T.no_bool (by decide +kernel)) pa_nil))))))) (pss_one (ps_ret (pe_and (pe_callB (call_fIsiA T.kit) (by rfl) T.no_isinstance (by decide +kernel) (pa_cons (fe_var 0) (pa_cons (fe_ty (n := "bool") (by rfl) T.no_bool (by decide +kernel)) pa_nil))) (pe_and (pe_callB (call_fIsiA T.kit) (by rfl) T.no_isinstance (by decide +kernel) (pa_cons (fe_var 1) (pa_cons (fe_ty (n := "bool") (by rfl) T.no_bool (by decide +kernel)) pa_nil))) (pe_one (pe_cmpR (op_fEq hr.units) (fe_var 0) (fe_var 1) (nomark _))))))) pss_nil)
      (pss_cons (ps_if (PW.pt (pw_or (pt_val (pe_callB (call_fIsiO T.kit) (by rfl) T.no_isinstance (by decide +kernel) (pa_cons (fe_var 0) (pa_cons (pe_glob (v := .ref c.Ref) (by rfl) T.mg_Ref rfl) pa_nil)))) (pw_or1 (pt_val (pe_callB (call_fIsiO T.kit) (by rfl) T.no_isinstance (by decide +kernel) (pa_cons (fe_var 1) (pa_cons (pe_glob (v := .ref c.Ref) (by rfl) T.mg_Ref rfl) pa_nil))))))) (pss_one (ps_ret (pe_and (pe_callB (call_fIsiO T.kit) (by rfl) T.no_isinstance (by decide +kernel) (pa_cons (fe_var 0) (pa_cons (pe_glob (v := .ref c.Ref) (by rfl) T.mg_Ref rfl) pa_nil))) (pe_and (pe_callB (call_fIsiO T.kit) (by rfl) T.no_isinstance (by decide +kernel) (pa_cons (fe_var 1) (pa_cons (pe_glob (v := .ref c.Ref) (by rfl) T.mg_Ref rfl) pa_nil))) (pe_one (pe_cmpR (op_fEq hr.units) (fe_fld (fe_var 0) T.pl_number rfl) (fe_fld (fe_var 1) T.pl_number rfl) (nomark _))))))) pss_nil)
      (pss_cons (ps_if (PW.pt (pw_or (pt_val (pe_callB (call_fIsiO T.kit) (by rfl) T.no_isinstance (by decide +kernel) (pa_cons (fe_var 0) (pa_cons (pe_glob (v := .ref c.Builtin) (by rfl) T.mg_Builtin rfl) pa_nil)))) (pw_or1 (pt_val (pe_callB (call_fIsiO T.kit) (by rfl) T.no_isinstance (by decide +kernel) (pa_cons (fe_var 1) (pa_cons (pe_glob (v := .ref c.Builtin) (by rfl) T.mg_Builtin rfl) pa_nil))))))) (pss_one (ps_ret (pe_and (pe_callB (call_fIsiO T.kit) (by rfl) T.no_isinstance (by decide +kernel) (pa_cons (fe_var 0) (pa_cons (pe_glob (v := .ref c.Builtin) (by rfl) T.mg_Builtin rfl) pa_nil))) (pe_and (pe_callB (call_fIsiO T.kit) (by rfl) T.no_isinstance (by decide +kernel) (pa_cons (fe_var 1) (pa_cons (pe_glob (v := .ref c.Builtin) (by rfl) T.mg_Builtin rfl) pa_nil))) (pe_one (pe_cmpR (op_fEq hr.units) (fe_fld (fe_var 0) T.pl_name rfl) (fe_fld (fe_var 1) T.pl_name rfl) (nomark _))))))) pss_nil)
      (pss_one (ps_ret (pe_cmpR (op_fEq hr.units) (fe_var 0) (fe_var 1) (nomark _)))))))), ?_⟩
      walk_at "fx0"
      cases r <;> cases t <;> first
        | (obtain rfl := (show x = _ from hx)
           obtain rfl := (show y = _ from hy)
           repeat (walk_at "oxs")
           first
             | exact h
             | simpa using h)
        | (obtain ⟨a, rfl, dx, e1⟩ := hx
           obtain rfl := (show y = _ from hy)
           repeat (first | walk_at "oxs" | simp only [e1])
           first
             | exact h
             | simpa using h)
        | (obtain rfl := (show x = _ from hx)
           obtain ⟨a, rfl, dx, e1⟩ := hy
           repeat (first | walk_at "oxs" | simp only [e1])
           first
             | exact h
             | simpa using h)
        | (obtain ⟨a, rfl, dx, e1⟩ := hx
           obtain ⟨b, rfl, dy, e2⟩ := hy
           repeat (first | walk_at "oxs" | simp only [e1] | simp only [e2])
           first
             | exact h
             | exact Eq.mp (congrArg (fun b => Q (V.bl b) _) (decide_eq_decide.mpr ⟨fun z => by cases z; rfl, fun z => by cases Int.ofNat.inj z; rfl⟩)) h
             | simpa using h)
    · cases h
/-- what a kind of an argument asks -/
def fitK (S : SV) (r : RV) (k : Str) : Bool := if k = "key" then inV (.str (kindR S r)) [.str "null", .str "boolean", .str "integer", .str "text"] else decide (k = "any") || decide (kindR S r = k)
def fitsK (S : SV) (rs : List RV) (ks : List Str) : Bool := (rs.zip ks).all fun p => fitK S p.1 p.2
def spKinds (K : PySem.W.Frag) (w : World) (c : Cs) : Sp := fun vs H Q E => match vs with
  | [.ref y, .ref l, .ref t] => ∃ x S xs rs ks, y = x.y ∧ Sto w c H x S ∧ H l = some (.lst xs) ∧ VsAt c H xs rs ∧ (∀ r ∈ rs, WfR S r) ∧ rs.length ≤ 1000 ∧ (∀ H', SqT K H' t (ks.map V.str)) ∧ ks.length = rs.length ∧ (if fitsK S rs ks = true then ∀ H1, Same H H1 → Q .non H1 else OutS c H "KindError" "wrong argument" E)
  | _ => False
def KndI (H : Hp) (S : SV) (rs : List RV) (ks : List Str) (y l t : Addr) (i : Nat) (σ : L2.St) (H' : Hp) : Prop := Same H H' ∧ fitsK S (rs.take i) (ks.take i) = true ∧ ∃ v3 v4 v5, σ = [some (.ref y), some (.ref l), some (.ref t), v3, v4, v5]
set_option maxHeartbeats 4000000 in
theorem ok_kinds (A : At K mg "check_kinds" "check_kinds" s_check_kinds ["store", "values", "kinds"]) (T : Txt K mg c) (H_kind_of : Has P w K mg base CX0 "kind_of" 3 ["store", "value"] (spKind w c)) (E_ScriptError : HasE P w K mg base c.ScriptError "ScriptError" 2 (two "kind" "message")) : Has P w K mg base (L2.CX P w) "check_kinds" 5 ["store", "values", "kinds"] (spKinds K w c) := by
  have Sc := sc_check_kinds
  refine hasX_of A Sc (fun vs H Q E h => ?_) (fun cdv f A outer s H vs Q E hr h => ?_)
  · unfold spKinds at h; split at h; rfl; cases h
  · unfold spKinds at h
    split at h
    · rename_i y l t
      obtain ⟨x, S, xs, rs, ks, rfl, hS, el, hv, hw, hn, ht, hk, h⟩ := h
      have hlx : xs.length = rs.length := Paired.length hv
      refine ⟨_, (pss_one (ps_for (passes_of rfl) rfl (pi_zipM (by rfl) T.no_zip (pa_cons (fe_var 1) (pa_cons (fe_var 2) pa_nil))) (pg_tup (n := 2) rfl (pgs_cons (pg_name (i := 3) Sc.nd rfl (.inl rfl)) (pgs_cons (pg_name (i := 4) Sc.nd rfl (.inl rfl)) pgs_nil))) (pss_cons (ps_set (i := 5) Sc.nd rfl (.inl rfl) (pe_or (pe_cmpR (op_fEq hr.units) (fe_var 4) pe_str (nomark _)) (pe_one (pe_cmpR (op_fEq hr.units) (fe_call H_kind_of (hr.mono (by walk_at "rm")) (by rfl) pass0 (pa_cons (fe_var 0) (pa_cons (fe_var 3) pa_nil))) (fe_var 4) (nomark _)))))
      (pss_cons (ps_if (pt_cmpR (op_fEq hr.units) (fe_var 4) pe_str (nomark _)) (pss_one (ps_set (i := 5) Sc.nd rfl (.inl rfl) (pe_cmpR op_fIn (fe_call H_kind_of (hr.mono (by walk_at "rm")) (by rfl) pass0 (pa_cons (fe_var 0) (pa_cons (fe_var 3) pa_nil))) (fe_tup (pa_cons pe_str (pa_cons pe_str (pa_cons pe_str (pa_cons pe_str pa_nil))))) (by with_unfolding_all rfl)))) pss_nil)
      (pss_one (ps_if (pt_not (pt_fTru (fe_var 5) (fun _ => rfl))) (pss_one (fs_raise rfl tk_of E_ScriptError (by decide) (hr.mono (by walk_at "rm")) (by rfl) (pa_cons pe_str (pa_cons pe_str pa_nil)))) pss_nil)))))), ?_⟩
      walk_at "fx0"
      walk_at "ox"
      refine cut_ fun N hN => for_ ?_
      walk_at "ox"
      refine ⟨_, .inl (.inl el), _, ht _, ?_⟩
      refine loop_zipM (xs := xs) (ys := ks.map V.str) (by rw [List.length_map]; omega) (KndI H S rs ks x.y l t) ⟨Same.refl _, by simp [fitsK], _, _, _, rfl⟩ (fun i σ H' ⟨s1, _⟩ => ⟨.inl (.inl (s1 _ _ el)), ht _⟩) ?_ ?_
      · rintro i v kv tq σ H1 hx hk1 ⟨s1, hf, v3, v4, v5, rfl⟩ nt
        rw [List.getElem?_map] at hk1
        obtain ⟨k, ek, rfl⟩ := Option.map_eq_some_iff.mp hk1
        obtain ⟨r, er, hr1⟩ := paired_get hv hx
        have hwr := hw r (List.mem_of_getElem? er)
        have s2 : Same H1 (upd H1 tq (.tup [v, .str k])) := same_new nt
        have etq : upd H1 tq (.tup [v, .str k]) tq = some (.tup [v, .str k]) := upd_same
        have hstep : fitsK S (rs.take (i + 1)) (ks.take (i + 1)) = fitK S r k := by
          unfold fitsK at hf ⊢
          rw [take_get er, take_get ek, List.zip_append (by rw [List.length_take, List.length_take, hk]), List.all_append, hf]
          simp
        have hbad : fitK S r k = false → fitsK S rs ks = false := fun e => by
          have : (r, k) ∈ rs.zip ks := List.mem_of_getElem? (i := i) (by rw [List.getElem?_zip_eq_some]; exact ⟨er, ek⟩)
          cases q : fitsK S rs ks with
          | false => rfl
          | true =>
            have := List.all_eq_true.mp q _ this
            rw [e] at this; cases this
        have S2 := s1.trans s2
        have hS2 := hS.same S2
        have hr2 := hr1.same S2
        generalize upd H1 tq (.tup [v, .str k]) = H2 at s2 S2 hS2 hr2 etq ⊢
        walk_at "ox"
        refine ⟨_, SqT.of etq, ?_⟩
        walk_at "ox"
        have anyNkey : ¬ (Str.ofString "any" = Str.ofString "key") := by decide
        by_cases hany : k = "any"
        · subst hany
          rw [if_pos rfl]
          repeat (walk_at "oxs")
          rw [if_neg anyNkey]
          repeat (walk_at "oxs")
          exact ⟨S2, by rw [hstep]; unfold fitK; rw [if_neg anyNkey]; rfl, _, _, _, rfl⟩
        · rw [if_neg hany]
          refine ⟨x, S, r, rfl, hS2, hr2, hwr, ?_⟩
          repeat (walk_at "oxs")
          by_cases hkey : k = "key"
          · subst hkey
            rw [if_pos rfl]
            repeat (walk_at "oxs")
            refine ⟨x, S, r, rfl, hS2, hr2, hwr, ?_⟩
            repeat (walk_at "oxs")
            intro p H3 np s3 ep
            refine ⟨_, rl_t ep, rfl, ?_⟩
            have hfk : fitK S r "key" = inV (.str (kindR S r)) [.str "null", .str "boolean", .str "integer", .str "text"] := by unfold fitK; rw [if_pos rfl]
            split
            · rename_i hb
              rw [hbad (by rw [hfk]; exact hb), if_neg (by simp)] at h
              exact h.same (S2.trans s3)
            · rename_i hb
              exact ⟨S2.trans s3, by rw [hstep, hfk]; simpa using hb, _, _, _, rfl⟩
          · rw [if_neg hkey]
            repeat (walk_at "oxs")
            have hfk : fitK S r k = decide (kindR S r = k) := by unfold fitK; rw [if_neg hkey, decide_eq_false hany]; rfl
            split
            · rename_i hb
              rw [hbad (by rw [hfk]; exact decide_eq_false hb), if_neg (by simp)] at h
              exact h.same S2
            · rename_i hb
              exact ⟨S2, by rw [hstep, hfk]; simpa using hb, _, _, _, rfl⟩
      · rintro σ H1 ⟨s1, hf, v3, v4, v5, rfl⟩
        refine hN _ _ ?_
        walk_at "ox"
        rw [List.take_of_length_le (by omega), List.take_of_length_le (by omega)] at hf
        rw [if_pos hf] at h
        exact h H1 s1
    · cases h
def arity (n : Int) (k : Nat) : Str := (Str.empty ++ Str.ofString "expected " ++ Str.ofString (toString n) ++ Str.ofString " arguments, got ") ++ Str.ofString (toString ((k : Nat) : Int))
theorem num_len : ∀ n : Fin 10, (Str.ofString (toString ((n : Nat) : Int))).length ≤ 1 := by decide +kernel
def spCount (c : Cs) : Sp := fun vs H Q E => match vs with
  | [.ref l, .int n] => ∃ xs, ∃ m : Nat, H l = some (.lst xs) ∧ xs.length < 10 ∧ n = (m : Nat) ∧ m < 10 ∧ (if xs.length = m then Q .non H else OutS c H "ArityError" (arity n xs.length) E)
  | _ => False
theorem ok_count (A : At K mg "check_count" "check_count" s_check_count ["values", "wanted"]) (T : Txt K mg c) (E_ScriptError : HasE P w K mg base c.ScriptError "ScriptError" 2 (two "kind" "message")) : Has P w K mg base (L2.CX P w) "check_count" 3 ["values", "wanted"] (spCount c) := by
  have Sc := sc_check_count
  refine hasX_of A Sc (fun vs H Q E h => ?_) (fun cdv f A outer s H vs Q E hr h => ?_)
  · unfold spCount at h; split at h; rfl; cases h
  · unfold spCount at h
    split at h
    · rename_i l n
      obtain ⟨xs, m, el, hl, rfl, hm, h⟩ := h
      refine ⟨_, (pss_one (ps_if (pt_cmpR (op_fNe hr.units) (pe_callB call_fLen (by rfl) T.no_len (by decide +kernel) (pa_cons (fe_var 0) pa_nil)) (fe_var 1) (nomark _)) (pss_one (fs_raise rfl tk_of E_ScriptError (by decide) (hr.mono (by walk_at "rm")) (by rfl) (pa_cons pe_str (pa_cons (fe_joined (pf_cons pe_str (pf_cons (fe_fmt (fe_var 1)) (pf_cons pe_str (pf_cons (fe_fmt (pe_callB call_fLen (by rfl) T.no_len (by decide +kernel) (pa_cons (fe_var 0) pa_nil))) PF_nil))))) pa_nil)))) pss_nil)), ?_⟩
      walk_at "fx0"
      repeat (walk_at "oxs")
      refine ⟨_, rl_l el, ?_⟩
      by_cases hn : xs.length = m
      · rw [if_pos hn] at h
        rw [if_neg (by omega)]
        repeat (walk_at "oxs")
        exact h
      · rw [if_neg hn] at h
        rw [if_pos (by omega)]
        repeat (walk_at "oxs")
        have k1 : (Str.ofString (toString ((m : Nat) : Int))).length ≤ 1 := num_len ⟨m, hm⟩
        have k2 : (Str.ofString (toString ((xs.length : Nat) : Int))).length ≤ 1 := num_len ⟨xs.length, hl⟩
        have g1 : Str.length Str.empty = 0 := rfl
        have g2 : Str.length (Str.ofString "expected ") = 9 := rfl
        have g3 : Str.length (Str.ofString " arguments, got ") = 16 := rfl
        have lg : ∀ m : Fin 10, ((m : Nat) : Int).natAbs.log2 < 1920 := by decide
        refine ⟨?_, lg ⟨m, hm⟩, ?_, ?_, _, rl_l el, lg ⟨xs.length, hl⟩, ?_, h⟩ <;> (simp only [Str.length_append, g1, g2, g3, sizeLine_eq]; omega)
    · cases h
end

section
variable {P : Program} {w : World} {K : PySem.W.Frag} {mg : Str → Option Value} {base : Heap} {c : Cs}
theorem Has.wk {CX : CXT} {x : Str} {k : Nat} {ps : List Str} {sp sp' : Sp} (h : Has P w K mg base CX x k ps sp) (wk : ∀ vs H Q E, sp' vs H Q E → sp vs H Q E) : Has P w K mg base CX x k ps sp' := by
  obtain ⟨f, fd, F, B, G, kp⟩ := h.ex
  exact ⟨f, fd, ⟨fun vs H Q E h => F.len vs H Q E (wk _ _ _ _ h), fun A outer s H args us vs Q E hr e0 hb r h => F.run A outer s H args us vs Q E hr e0 hb r (wk _ _ _ _ h)⟩, B, G, kp⟩
/-! ### rows of entries -/
section
variable {α β : Type} [DecidableEq α]
def lkG (rows : List (α × β)) (k : α) : Option β := (rows.find? fun r => decide (r.1 = k)).map (·.2)
def putG (rows : List (α × β)) (k : α) (v : β) : List (α × β) := if (lkG rows k).isSome = true then rows.map (fun r => if r.1 = k then (k, v) else r) else rows ++ [(k, v)]
def dropG (rows : List (α × β)) (k : α) : List (α × β) := rows.filter fun r => decide (r.1 ≠ k)
theorem lkG_mem {rows : List (α × β)} {k : α} : (lkG rows k).isSome = true ↔ k ∈ rows.map (·.1) := by
  unfold lkG
  rw [Option.isSome_map, List.find?_isSome]
  simp
theorem map_offG {rows : List (α × β)} {k : α} {v : β} (h : k ∉ rows.map (·.1)) : (rows.map fun r => if r.1 = k then (k, v) else r) = rows := by
  induction rows with
  | nil => rfl
  | cons r rows ih =>
    rw [List.map_cons, List.mem_cons, not_or] at h
    rw [List.map_cons, if_neg (Ne.symm h.1), ih h.2]
theorem drop_offG {rows : List (α × β)} {k : α} (h : k ∉ rows.map (·.1)) : dropG rows k = rows := by
  unfold dropG
  rw [List.filter_eq_self]
  intro r hr
  exact decide_eq_true fun e => h (by rw [← e]; exact List.mem_map_of_mem hr)
theorem putG_keys {rows : List (α × β)} {k : α} {v : β} : (putG rows k v).map (·.1) = if (lkG rows k).isSome = true then rows.map (·.1) else rows.map (·.1) ++ [k] := by
  unfold putG
  split
  · rw [List.map_map]
    refine List.map_congr_left fun r _ => ?_
    show (if r.1 = k then (k, v) else r).1 = r.1
    split
    · rename_i z; exact z.symm
    · rfl
  · rw [List.map_append]; rfl
theorem putG_nd {rows : List (α × β)} {k : α} {v : β} (h : (rows.map (·.1)).Nodup) : ((putG rows k v).map (·.1)).Nodup := by
  rw [putG_keys]
  split
  · exact h
  · rename_i z
    rw [lkG_mem] at z
    rw [List.nodup_append]
    refine ⟨h, by simp, fun a ha b hb e => ?_⟩
    simp at hb
    subst hb
    subst e
    exact z ha
theorem dropG_nd {rows : List (α × β)} {k : α} (h : (rows.map (·.1)).Nodup) : ((dropG rows k).map (·.1)).Nodup := (List.filter_sublist.map _).nodup h
theorem putG_len {rows : List (α × β)} {k : α} {v : β} : (putG rows k v).length = if (lkG rows k).isSome = true then rows.length else rows.length + 1 := by
  unfold putG
  split
  · rw [List.length_map]
  · rw [List.length_append]; rfl
/-- where a key stands -/
theorem caseG (k : α) : ∀ {rows : List (α × β)}, (rows.map (·.1)).Nodup → (∃ i r, rows[i]? = some r ∧ r.1 = k ∧ rows.findIdx? (fun r => decide (r.1 = k)) = some i ∧ lkG rows k = some r.2 ∧ dropG rows k = rows.eraseIdx i ∧ ∀ v, putG rows k v = rows.set i (k, v)) ∨
    (rows.findIdx? (fun r => decide (r.1 = k)) = none ∧ lkG rows k = none ∧ k ∉ rows.map (·.1) ∧ ∀ v, putG rows k v = rows ++ [(k, v)])
  | [], _ => .inr ⟨rfl, rfl, by simp, fun v => rfl⟩
  | r :: rows, nd => by
    rw [List.map_cons, List.nodup_cons] at nd
    by_cases e : r.1 = k
    · have hno : k ∉ rows.map (·.1) := by rw [← e]; exact nd.1
      have hs : lkG (r :: rows) k = some r.2 := by simp [lkG, List.find?_cons, e]
      refine .inl ⟨0, r, rfl, e, by simp [List.findIdx?_cons, e], hs, ?_, fun v => ?_⟩
      · have : dropG (r :: rows) k = dropG rows k := by
          unfold dropG
          rw [List.filter_cons, if_neg (by simp [e])]
        rw [this, drop_offG hno]
        rfl
      · unfold putG
        rw [hs, if_pos (by rfl), List.map_cons, if_pos e, map_offG hno]
        rfl
    · have hs : lkG (r :: rows) k = lkG rows k := by simp [lkG, List.find?_cons, e]
      rcases caseG k nd.2 with ⟨i, r', h1, h2, h3, h4, h5, h6⟩ | ⟨h3, h4, hno, h6⟩
      · refine .inl ⟨i + 1, r', h1, h2, by simp [List.findIdx?_cons, e, h3], by rw [hs]; exact h4, ?_, fun v => ?_⟩
        · have : dropG (r :: rows) k = r :: dropG rows k := by
            unfold dropG
            rw [List.filter_cons, if_pos (by simp [e])]
          rw [this, h5]
          first | rfl | skip
        · have := h6 v
          unfold putG at this ⊢
          rw [h4, if_pos (by rfl)] at this
          rw [hs, h4, if_pos (by rfl), List.map_cons, if_neg e, this]
          try rfl
      · refine .inr ⟨by simp [List.findIdx?_cons, e, h3], by rw [hs]; exact h4, by rw [List.map_cons, List.mem_cons, not_or]; exact ⟨Ne.symm e, hno⟩, fun v => ?_⟩
        unfold putG
        rw [hs, h4, if_neg (by simp)]
        try rfl
end
theorem take_getG {α : Type} {xs : List α} {i : Nat} {x : α} (h : xs[i]? = some x) : xs.take (i + 1) = xs.take i ++ [x] := by rw [List.take_succ, h]; rfl
theorem nd_takeG {α β : Type} {rows : List (α × β)} (h : (rows.map (·.1)).Nodup) {i : Nat} {r : α × β} (e : rows[i]? = some r) : r.1 ∉ (rows.take i).map (·.1) := by
  have h2 : ((rows.take (i + 1)).map (·.1)).Nodup := ((List.take_sublist _ _).map _).nodup h
  rw [take_getG e, List.map_append, List.nodup_append] at h2
  exact fun m => h2.2.2 _ m _ (by simp) rfl
def mergeG {α β : Type} [DecidableEq α] (rows others : List (α × β)) : List (α × β) := others.foldl (fun acc r => putG acc r.1 r.2) rows
def freshN {α β : Type} [DecidableEq α] (rows others : List (α × β)) : Nat := (others.filter fun r => !(lkG rows r.1).isSome).length
theorem ixN_nat2 {n j : Nat} (h : j < n) : ixN n (j : Int) = some j := by
  unfold ixN
  rw [if_pos (by omega), if_pos (by omega), Int.toNat_natCast]
/-! ### keys -/
def keyB : RV → Bool
  | .bt _ => false
  | .ob _ => false
  | _ => true
theorem sc_val {H : Hp} {v : V} {r : RV} (hv : scV v = true) (h : IsVal c H v r) : r = rvOf v ∧ keyB r = true := by
  cases r <;> first
    | (cases (show v = _ from h); exact ⟨rfl, rfl⟩)
    | (obtain ⟨a, e, _⟩ := h; rw [e] at hv; cases hv)
theorem val_sc {H : Hp} {v : V} {r : RV} (hr : keyB r = true) (h : IsVal c H v r) : scV v = true := by
  cases r <;> first
    | (cases (show v = _ from h); rfl)
    | cases hr
theorem rvOf_inj {x y : V} (hx : scV x = true) (hy : scV y = true) (h : rvOf x = rvOf y) : x = y := by
  cases x <;> cases y <;> first
    | rfl
    | (cases hx; done)
    | (cases hy; done)
    | (cases h; done)
    | (cases h; rfl)
abbrev RowsR (c : Cs) (H : Hp) : List (V × V) → List (RV × RV) → Prop := Paired (fun x r => IsVal c H x.1 r.1 ∧ IsVal c H x.2 r.2)
theorem RowsR.hs {H H' : Hp} {rws : List (V × V)} {rows : List (RV × RV)} (h : RowsR c H rws rows) (s : HardStay c H H') : RowsR c H' rws rows := Paired.mapP h fun _ _ z => ⟨z.1.hs s, z.2.hs s⟩
def scK (rws : List (V × V)) : Prop := ∀ x ∈ rws, scV x.1 = true
theorem TabR.sck {H : Hp} {d : Addr} {rws : List (V × V)} (h : TabR w H d rws) : scK rws := by
  obtain ⟨⟨es, D, e0, r⟩, _⟩ := h
  intro x m
  obtain ⟨i, hi, rfl⟩ := List.getElem_of_mem m
  have hl : es.length = rws.length := Paired.length r
  obtain ⟨y, hy, h1, h2, _⟩ := paired_get r (List.getElem?_eq_getElem (show i < es.length by omega))
  rw [List.getElem?_eq_getElem hi] at hy
  cases hy
  exact h2
theorem link_at {H : Hp} {k : V} (hk : scV k = true) {rws : List (V × V)} {rows : List (RV × RV)} (h : RowsR c H rws rows) (hs : scK rws) : (∃ x y, rowAt rws k = some x ∧ lkG rows (rvOf k) = some y ∧ IsVal c H x y) ∨ (rowAt rws k = none ∧ lkG rows (rvOf k) = none) := by
  induction h with
  | nil => exact .inr ⟨rfl, rfl⟩
  | @cons x r rws rows h t ih =>
    obtain ⟨h1, h2⟩ := h
    have hx := hs x (List.mem_cons_self ..)
    obtain ⟨e1, _⟩ := sc_val hx h1
    by_cases q : x.1 = k
    · have a : rowAt (x :: rws) k = some x.2 := by simp [rowAt, List.find?_cons, q]
      have b : lkG (r :: rows) (rvOf k) = some r.2 := by simp [lkG, List.find?_cons, e1, q]
      exact .inl ⟨_, _, a, b, h2⟩
    · have nq : ¬ r.1 = rvOf k := fun z => q (rvOf_inj hx hk (e1.symm.trans z))
      have a : rowAt (x :: rws) k = rowAt rws k := by simp [rowAt, List.find?_cons, q]
      have b : lkG (r :: rows) (rvOf k) = lkG rows (rvOf k) := by simp [lkG, List.find?_cons, nq]
      rw [a, b]
      exact ih fun y m => hs y (List.mem_cons_of_mem _ m)
theorem link_some {H : Hp} {k : V} (hk : scV k = true) {rws : List (V × V)} {rows : List (RV × RV)} (h : RowsR c H rws rows) (hs : scK rws) : (rowAt rws k).isSome = (lkG rows (rvOf k)).isSome := by
  rcases link_at hk h hs with ⟨x, y, e1, e2, _⟩ | ⟨e1, e2⟩ <;> rw [e1, e2] <;> rfl
theorem link_put {H : Hp} {k v : V} {r : RV} (hk : scV k = true) (hv : IsVal c H v r) {rws : List (V × V)} {rows : List (RV × RV)} (h : RowsR c H rws rows) (hs : scK rws) : RowsR c H (putR rws k v) (putG rows (rvOf k) r) := by
  unfold putR putG
  rw [link_some hk h hs]
  split
  · rename_i q
    clear q
    induction h with
    | nil => exact .nil
    | @cons x r' rws rows h t ih =>
      have hx := hs x (List.mem_cons_self ..)
      obtain ⟨e1, _⟩ := sc_val hx h.1
      rw [List.map_cons, List.map_cons]
      refine .cons ?_ (ih fun y m => hs y (List.mem_cons_of_mem _ m))
      by_cases z : x.1 = k
      · rw [if_pos z, if_pos (by rw [e1, z])]
        exact ⟨rvOf_is hk, hv⟩
      · rw [if_neg z, if_neg (fun w => z (rvOf_inj hx hk (e1.symm.trans w)))]
        exact h
  · exact Paired.snoc h ⟨rvOf_is hk, hv⟩
theorem link_drop {H : Hp} {k : V} (hk : scV k = true) {rws : List (V × V)} {rows : List (RV × RV)} (h : RowsR c H rws rows) (hs : scK rws) : RowsR c H (dropR rws k) (dropG rows (rvOf k)) := by
  unfold dropR dropG
  induction h with
  | nil => exact .nil
  | @cons x r rws rows h t ih =>
    have hx := hs x (List.mem_cons_self ..)
    obtain ⟨e1, _⟩ := sc_val hx h.1
    have ih := ih fun y m => hs y (List.mem_cons_of_mem _ m)
    rw [List.filter_cons, List.filter_cons]
    by_cases z : x.1 = k
    · rw [if_neg (by simp [z]), if_neg (by simp [e1, z])]
      exact ih
    · rw [if_pos (by simp [z]), if_pos (by simpa using fun w => z (rvOf_inj hx hk (e1.symm.trans w)))]
      exact .cons h ih
theorem link_nd {H : Hp} {rws : List (V × V)} {rows : List (RV × RV)} (h : RowsR c H rws rows) (hs : scK rws) (nd : (rws.map (·.1)).Nodup) : (rows.map (·.1)).Nodup := by
  induction h with
  | nil => exact List.nodup_nil
  | @cons x r rws rows h t ih =>
    have hx := hs x (List.mem_cons_self ..)
    obtain ⟨e1, _⟩ := sc_val hx h.1
    have hs' : scK rws := fun y m => hs y (List.mem_cons_of_mem _ m)
    rw [List.map_cons, List.nodup_cons] at nd ⊢
    refine ⟨fun m => nd.1 ?_, ih hs' nd.2⟩
    have h2 := link_some (k := x.1) hx t hs'
    rw [← e1] at h2
    rw [← rowAt_mem, h2, lkG_mem]
    exact m
/-- a map of the store -/
theorem Sto.tab {H : Hp} {x : SA} {S : SV} (h : Sto w c H x S) {n : Nat} {rows : List (RV × RV)} (e : S.things[n]? = some (.table rows)) : ∃ a d rws, x.L[n]? = some (a, some d) ∧ IsTab c H a d ∧ TabR w H d rws ∧ RowsR c H rws rows := by
  obtain ⟨a, b, h1, d, rws, rfl, h2, h3, h4⟩ := h.at e
  exact ⟨a, d, rws, h1, h2, h3, h4⟩
theorem Sto.tabset {H H1 : Hp} {x : SA} {S : SV} {n : Nat} {a d : Addr} {rws rws' : List (V × V)} {rows' : List (RV × RV)} (h : Sto w c H x S) (hx : x.L[n]? = some (a, some d)) (ha : IsTab c H a d) (ht : TabR w H d rws) (k : Keep [d] H H1) (ht' : TabR w H1 d rws') (hr : RowsR c H1 rws' rows') : Sto w c H1 x (S.setT n (.table rows')) := by
  have ne : a ≠ d := fun z => by
    obtain ⟨⟨es', D, e0, r⟩, _⟩ := ht
    obtain ⟨dx, e1⟩ := ha
    rw [z, e0] at e1
    have z' : HO.ext _ = HO.ins _ _ _ := Option.some.inj e1
    cases z'
  obtain ⟨dx, e1⟩ := ha
  exact h.setT hx k ht.soft ⟨d, rws', rfl, ⟨dx, k _ _ (by simpa using ne) e1⟩, ht', hr⟩
/-- what a method of a map comes to -/
inductive MRes where
  | err (k m : Str)
  | val (r : RV) (rows : List (RV × RV))
  | made (ts : List Th)
def SV.adds (S : SV) (ts : List Th) : SV := { S with things := S.things ++ ts }
def ResM (w : World) (c : Cs) (H : Hp) (x : SA) (S : SV) (n : Nat) : MRes → VK → XK → Prop
  | .err k m, _, E => OutS c H k m E
  | .val r rows', Q, _ => ∀ v d H1, Keep [d] H H1 → d ∈ x.foot → Soft c H d → Sto w c H1 x (S.setT n (.table rows')) → IsVal c H1 v r → Q v H1
  | .made ts, Q, _ => ∀ v x' H1, Keep [x.tl] H H1 → Sto w c H1 x' (S.adds ts) → (∀ q ∈ x'.foot, q ∈ x.foot ∨ H q = none) → x'.y = x.y → x'.tl = x.tl → IsVal c H1 v (.ob (S.things.length + ts.length - 1)) → Q v H1
theorem ResM.same {H H' : Hp} {x : SA} {S : SV} {n : Nat} {R : MRes} {Q : VK} {E : XK} (h : ResM w c H x S n R Q E) (s : Same H H') : ResM w c H' x S n R Q E := by
  cases R with
  | err k m => exact OutS.same h s
  | val r rs' => exact fun v d H1 k hd so st hr => h v d H1 ((Keep.of s).trans k) hd (fun o e hd => so o (s _ _ e) hd) st hr
  | made ts => exact fun v x' H1 k st hf hy ht hr => h v x' H1 ((Keep.of s).trans k) st (fun q m => (hf q m).imp id s.free) hy ht hr
theorem SV.setT_self {S : SV} {n : Nat} {t : Th} (h : S.things[n]? = some t) : S.setT n t = S := by
  unfold SV.setT
  have : S.things.set n t = S.things := by
    refine List.ext_getElem? fun i => ?_
    rw [List.getElem?_set]
    split
    · rename_i e
      subst e
      rw [if_pos (List.getElem?_eq_some_iff.mp h).1, h]
    · rfl
  rw [this]
theorem ResM.stay {H H1 : Hp} {x : SA} {S : SV} {n : Nat} {rows : List (RV × RV)} {r : RV} {Q : VK} {E : XK} {v : V} (hS : Sto w c H x S) (et : S.things[n]? = some (.table rows)) (h : ResM w c H x S n (.val r rows) Q E) (s : Same H H1) (hv : IsVal c H1 v r) : Q v H1 := by
  obtain ⟨a, d, rws, hx, ha, ht, hr⟩ := hS.tab et
  exact h v d H1 (Keep.of s) (mem_add (List.mem_of_getElem? hx) (by simp [footT])) ht.soft (by rw [SV.setT_self et]; exact hS.same s) hv
theorem ResM.tab {H H1 : Hp} {x : SA} {S : SV} {n : Nat} {a d : Addr} {rws rws' : List (V × V)} {rows' : List (RV × RV)} {r : RV} {Q : VK} {E : XK} {v : V} (hS : Sto w c H x S) (hx : x.L[n]? = some (a, some d)) (ha : IsTab c H a d) (ht : TabR w H d rws) (h : ResM w c H x S n (.val r rows') Q E) (k : Keep [d] H H1) (ht' : TabR w H1 d rws') (hr : RowsR c H1 rws' rows') (hv : IsVal c H1 v r) : Q v H1 :=
  h v d H1 k (mem_add (List.mem_of_getElem? hx) (by simp [footT])) ht.soft (hS.tabset hx ha ht k ht' hr) hv
theorem keepd_hs {H H1 : Hp} {d : Addr} {rws : List (V × V)} (ht : TabR w H d rws) (k : Keep [d] H H1) : HardStay c H H1 := .keep k fun p m => by rw [List.mem_singleton.mp m]; exact ht.soft
def mergeR (rws others : List (V × V)) : List (V × V) := others.foldl (fun acc r => putR acc r.1 r.2) rws
def freshR (rws others : List (V × V)) : Nat := (others.filter fun r => !(rowAt rws r.1).isSome).length
theorem mergeR_len : ∀ (others rws : List (V × V)), (mergeR rws others).length ≤ rws.length + others.length
  | [], rws => Nat.le_refl _
  | r :: t, rws => by
    have h1 := mergeR_len t (putR rws r.1 r.2)
    have h2 := putR_len rws r.1 r.2
    show (mergeR (putR rws r.1 r.2) t).length ≤ _
    rw [List.length_cons]
    omega
theorem link_fresh {H : Hp} {rws : List (V × V)} {rows : List (RV × RV)} (h : RowsR c H rws rows) (hs : scK rws) {ows : List (V × V)} {others : List (RV × RV)} (g : RowsR c H ows others) (gs : scK ows) : freshR rws ows = freshN rows others := by
  unfold freshR freshN
  induction g with
  | nil => rfl
  | @cons x r ows others g t ih =>
    have hx := gs x (List.mem_cons_self ..)
    obtain ⟨e1, _⟩ := sc_val hx g.1
    have ih := ih fun y m => gs y (List.mem_cons_of_mem _ m)
    have hl := link_some hx h hs
    rw [List.filter_cons, List.filter_cons, hl, e1]
    split
    · rw [List.length_cons, List.length_cons, ih]
    · exact ih
theorem scK_put {rws : List (V × V)} {k v : V} (hk : scV k = true) (hs : scK rws) : scK (putR rws k v) := by
  unfold putR
  split
  · intro x m
    obtain ⟨y, hy, rfl⟩ := List.mem_map.mp m
    split
    · exact hk
    · exact hs y hy
  · intro x m
    rcases List.mem_append.mp m with m | m
    · exact hs x m
    · rw [List.mem_singleton.mp m]; exact hk
theorem link_merge {H : Hp} {ows : List (V × V)} {others : List (RV × RV)} (g : RowsR c H ows others) (gs : scK ows) : ∀ {rws : List (V × V)} {rows : List (RV × RV)}, RowsR c H rws rows → scK rws → RowsR c H (mergeR rws ows) (mergeG rows others) := by
  induction g with
  | nil => exact fun h _ => h
  | @cons x r ows others g t ih =>
    intro rws rows h hs
    have hx := gs x (List.mem_cons_self ..)
    obtain ⟨e1, _⟩ := sc_val hx g.1
    have h2 := link_put hx g.2 h hs
    rw [← e1] at h2
    exact ih (fun y m => gs y (List.mem_cons_of_mem _ m)) h2 (scK_put hx hs)
end

section
variable {P : Program} {w : World} {K : PySem.W.Frag} {mg : Str → Option Value} {base : Heap} {c : Cs}
/-! ### keys checked, put -/
def spIsKeyR (c : Cs) : Sp := fun vs H Q _ => match vs with
  | [v] => ∃ r, IsVal c H v r ∧ ∀ H1, Same H H1 → Q (.bl (keyB r)) H1
  | _ => False
theorem ok_iskeyR (A : At K mg "is_key" "is_key" s_is_key ["value"]) (T : Txt K mg c) : Has P w K mg base CX0 "is_key" 1 ["value"] (spIsKeyR c) := by
  have Sc := sc_is_key
  refine has_of A Sc (fun vs H Q E h => ?_) (fun cdv f A outer s H vs Q E hr h => ?_)
  · unfold spIsKeyR at h; split at h; rfl; cases h
  · unfold spIsKeyR at h
    split at h
    · rename_i v
      obtain ⟨r, hv, h⟩ := h
      refine ⟨_, (pss_one (ps_ret (pe_not (pe_callB (call_fIsiP T.kit) (by rfl) T.no_isinstance (by decide +kernel) (pa_cons (fe_var 0) (pa_cons (fe_tup (pa_cons (pe_glob (v := .ref c.Ref) (by rfl) T.mg_Ref rfl) (pa_cons (pe_glob (v := .ref c.Builtin) (by rfl) T.mg_Builtin rfl) pa_nil))) pa_nil)))))), ?_⟩
      walk_at "fx0"
      cases r <;> first
        | (obtain rfl := (show v = _ from hv)
           repeat (walk_at "oxs")
           intro p H2 np s2 e2
           simp only [e2]
           repeat (walk_at "oxs")
           exact h H2 s2)
        | (obtain ⟨a, rfl, dx, e1⟩ := hv
           repeat (walk_at "oxs")
           intro p H2 np s2 e2
           simp only [e2]
           repeat (first | walk_at "oxs" | simp only [s2 _ _ e1])
           exact h H2 s2)
    · cases h
def badKey : Str := "keys are null, booleans, integers and texts"
def spChkKeyR (c : Cs) : Sp := fun vs H Q E => match vs with
  | [v] => ∃ r, IsVal c H v r ∧ if keyB r = true then ∀ H1, Same H H1 → Q v H1 else OutS c H "KindError" badKey E
  | _ => False
theorem ok_chkkeyR (A : At K mg "checked_key" "checked_key" s_checked_key ["i"]) (T : Txt K mg c) (H_is_key : Has P w K mg base CX0 "is_key" 1 ["value"] (spIsKeyR c)) (E_ScriptError : HasE P w K mg base c.ScriptError "ScriptError" 2 (two "kind" "message")) : Has P w K mg base (L2.CX P w) "checked_key" 3 ["i"] (spChkKeyR c) := by
  have Sc := sc_checked_key
  refine hasX_of A Sc (fun vs H Q E h => ?_) (fun cdv f A outer s H vs Q E hr h => ?_)
  · unfold spChkKeyR at h; split at h; rfl; cases h
  · unfold spChkKeyR at h
    split at h
    · rename_i v
      obtain ⟨r, hv, h⟩ := h
      refine ⟨_, (pss_cons (ps_if (pt_not (pt_val (fe_call H_is_key (hr.mono (by walk_at "rm")) (by rfl) pass0 (pa_cons (fe_var 0) pa_nil)))) (pss_one (fs_raise rfl tk_of E_ScriptError (by decide) (hr.mono (by walk_at "rm")) (by rfl) (pa_cons pe_str (pa_cons pe_str pa_nil)))) pss_nil)
      (pss_one (ps_ret (fe_var 0)))), ?_⟩
      walk_at "fx0"
      repeat (walk_at "oxs")
      refine ⟨r, hv, fun H1 s1 => ?_⟩
      repeat (walk_at "oxs")
      split
      · rename_i q
        rw [if_neg (by rw [q]; simp)] at h
        exact h.same s1
      · rename_i q
        rw [if_pos (by simpa using q)] at h
        exact h H1 s1
    · cases h
def spPutKeyR (w : World) (c : Cs) : Sp := fun vs H Q E => match vs with
  | [.ref a, k, v] => ∃ d rows, IsTab c H a d ∧ TabR w H d rows ∧ scV k = true ∧ rows.length ≤ 1000 ∧ if (rowAt rows k).isSome = false ∧ rows.length = 1000 then OutS c H "SizeError" "too large" E else ∀ H1, Keep [d] H H1 → TabR w H1 d (putR rows k v) → Q .non H1
  | _ => False
theorem ok_putkeyR (A : At K mg "put_key" "put_key" s_put_key ["table", "key", "value"]) (T : Txt K mg c) (M_Table_has : HasM P w K mg base CX0 c.Table "has" 2 ["self", "key"] (spHas w c)) (M_Table_put : HasM P w K mg base CX0 c.Table "put" 2 ["self", "key", "value"] (spPut w c)) (P_Table_many : HasP P w K mg base CX0 c.Table "many" 1 ["self"] (spMany w c)) (H_check_parts : Has P w K mg base (L2.CX P w) "check_parts" 3 ["count"] (spCheck c)) : Has P w K mg base (L2.CX P w) "put_key" 4 ["table", "key", "value"] (spPutKeyR w c) := by
  have Sc := sc_put_key
  refine hasX_of A Sc (fun vs H Q E h => ?_) (fun cdv f A outer s H vs Q E hr h => ?_)
  · unfold spPutKeyR at h; split at h; rfl; cases h
  · unfold spPutKeyR at h
    split at h
    · rename_i a k v
      obtain ⟨d, rows, ⟨dx, ea⟩, TR, hk, hn, h⟩ := h
      refine ⟨_, (pss_cons (ps_if (pt_not (pt_val (fe_meth M_Table_has T.cl_Table (hr.mono (by walk_at "rm")) pass0 (fe_var 0) (pa_cons (fe_var 1) pa_nil)))) (pss_one (ps_expr (fe_callX H_check_parts (hr.mono (by walk_at "rm")) (by rfl) tk_of (pa_cons (pe_op op_fAdd (fe_prop P_Table_many T.cl_Table (hr.mono (by walk_at "rm")) pass0 (fe_var 0) rfl) pe_int) pa_nil)))) pss_nil)
      (pss_one (ps_expr (fe_meth M_Table_put T.cl_Table (hr.mono (by walk_at "rm")) pass0 (fe_var 0) (pa_cons (fe_var 1) (pa_cons (fe_var 2) pa_nil)))))), ?_⟩
      walk_at "fx0"
      walk_at "ox"
      refine cut_ fun N hN => ifs_ ?_
      have fin : ∀ H1, Same H H1 → ¬ ((rowAt rows k).isSome = false ∧ rows.length = 1000) → N [some (.ref a), some k, some v] H1 := fun H1 s1 hq => by
        refine hN _ _ ?_
        walk_at "ox"
        simp only [s1 _ _ ea]
        walk_at "ox"
        rw [if_neg hq] at h
        refine ⟨d, rows, ⟨dx, s1 _ _ ea⟩, TR.same s1, hk, by omega, fun H2 k2 TR2 => h H2 ((Keep.of s1).trans k2) TR2⟩
      repeat (first | walk_at "oxs" | simp only [ea])
      refine ⟨d, rows, ⟨dx, ea⟩, TR, hk, fun H1 s1 => ?_⟩
      repeat (first | walk_at "oxs" | simp only [s1 _ _ ea])
      split
      · rename_i q
        refine ⟨d, rows, ⟨dx, s1 _ _ ea⟩, TR.same s1, ?_⟩
        show spCheck c [.int ((rows.length : Nat) + 1)] H1 _ E
        unfold spCheck
        dsimp only
        by_cases hl : rows.length = 1000
        · rw [if_pos ⟨q, hl⟩] at h
          rw [if_pos (by omega)]
          exact OutS.same h s1
        · rw [if_neg (by omega)]
          exact fin H1 s1 fun z => hl z.2
      · rename_i q
        exact fin H1 s1 fun z => q z.1
    · cases h
theorem chk_to {vs : List V} {H : Hp} {Q : VK} {E : XK} (h : (match vs with | [v] => scV v = true ∧ ∀ H1, Same H H1 → Q v H1 | _ => False)) : spChkKeyR c vs H Q E := by
  split at h
  · exact ⟨_, rvOf_is h.1, by rw [if_pos (sc_val h.1 (rvOf_is (c := c) (H := H) h.1)).2]; exact h.2⟩
  · cases h
def spMkMap (w : World) (c : Cs) : Sp := fun vs H Q _ => match vs with
  | [.ref y, .ref l] => ∃ x S ts rows rs, y = x.y ∧ Sto w c H x S ∧ H l = some (.lst (ts.map V.ref)) ∧ RowsT H ts rows ∧ (rows.map (·.1)).Nodup ∧ (∀ r ∈ rows, scV r.1 = true) ∧ Paired (fun x r => IsVal c H x.1 r.1 ∧ IsVal c H x.2 r.2) rows rs ∧ rows.length ≤ 1000 ∧ S.things.length < 99999 ∧ NewTh w c H x S (.table rs) Q
  | _ => False
theorem ok_mkmap (A : At K mg "make_map" "make_map" s_make_map ["store", "pairs"]) (T : Txt K mg c) (M_Table : HasC P w K mg base CX0 c.Table "Table" 1 ["self"] (spMkTab w c)) (H_checked_key : Has P w K mg base (L2.CX P w) "checked_key" 3 ["i"] (spChkKeyR c)) (H_put_key : Has P w K mg base (L2.CX P w) "put_key" 4 ["table", "key", "value"] (spPutKeyR w c)) (M_Store_make : HasM P w K mg base CX0 c.Store "make" 3 ["self", "thing"] (spMake w c)) : Has P w K mg base (L2.CX P w) "make_map" 5 ["store", "pairs"] (spMkMap w c) := by
  have Sc := sc_make_map
  refine hasX_of A Sc (fun vs H Q E h => ?_) (fun cdv f A outer s H vs Q E hr h => ?_)
  · unfold spMkMap at h; split at h; rfl; cases h
  · unfold spMkMap at h
    split at h
    · rename_i y l
      obtain ⟨x, S, ts, rows, rs, rfl, hS, el, hts, hnd, hsc, hv, hn, hl, h⟩ := h
      have hle : ts.length = rows.length := Paired.length hts
      obtain ⟨sdx, es⟩ := hS.st
      refine ⟨_, (pss_cons (ps_set (i := 2) Sc.nd rfl (.inl rfl) (fe_make0 M_Table (hr.mono (by walk_at "rm")) (by rfl) pass0))
      (pss_cons (ps_for (passes_of rfl) rfl (pi_list (fe_var 1)) (pg_tup (n := 2) rfl (pgs_cons (pg_name (i := 3) Sc.nd rfl (.inl rfl)) (pgs_cons (pg_name (i := 4) Sc.nd rfl (.inl rfl)) pgs_nil))) (pss_one (ps_expr (fe_callX H_put_key (hr.mono (by walk_at "rm")) (by rfl) tk_of (pa_cons (fe_var 2) (pa_cons (fe_callX H_checked_key (hr.mono (by walk_at "rm")) (by rfl) tk_of (pa_cons (fe_var 3) pa_nil)) (pa_cons (fe_var 4) pa_nil)))))))
      (pss_one (ps_ret (fe_meth M_Store_make T.cl_Store (hr.mono (by walk_at "rm")) pass0 (fe_var 0) (pa_cons (fe_var 2) pa_nil)))))), ?_⟩
      walk_at "fx0"
      walk_at "ox"
      intro a d H1 na nd s1 ⟨dx1, ea⟩ TR0
      have ne : d ≠ a := fun z => by obtain ⟨⟨es', D, e0, r⟩, _⟩ := TR0; rw [z, ea] at e0; cases e0
      have nl : l ≠ d := fun z => by rw [z, nd] at el; cases el
      refine cut_ fun N hN => for_ ?_
      repeat (walk_at "oxs")
      refine ⟨⟨_, .inl (.inl (s1 _ _ el))⟩, ?_⟩
      refine loop_list (ts.map V.ref) (fun i σ H' => Keep [d] H1 H' ∧ TabR w H' d (rows.take i) ∧ ∃ v3 v4, σ = [some (.ref x.y), some (.ref l), some (.ref a), v3, v4]) ⟨Keep.refl, TR0, _, _, rfl⟩ (fun i σ H' _ ⟨k, _⟩ => .inl (.inl (k _ _ (by simpa using nl) (s1 _ _ el)))) ?_ ?_
      · rintro i v σ H3 hx ⟨k3, TR3, v2, v3, rfl⟩
        rw [List.getElem?_map] at hx
        obtain ⟨t, et, rfl⟩ := Option.map_eq_some_iff.mp hx
        obtain ⟨r, hr1, hr2⟩ := paired_get hts et
        have htd : t ≠ d := fun z => by rw [z, nd] at hr2; cases hr2
        have et3 := k3 _ _ (by simpa using htd) (s1 _ _ hr2)
        have ea3 := k3 _ _ (by simpa using Ne.symm ne) ea
        have hi := (List.getElem?_eq_some_iff.mp hr1).1
        have hk := hsc _ (List.mem_of_getElem? hr1)
        walk_at "ox"
        refine ⟨_, SqT.of et3, ?_⟩
        walk_at "ox"
        refine chk_to ⟨hk, fun H4 s4 => ?_⟩
        walk_at "ox"
        refine ⟨d, _, ⟨dx1, s4 _ _ ea3⟩, TR3.same s4, hk, by rw [List.length_take]; omega, ?_⟩
        rw [if_neg (by rw [List.length_take]; omega)]
        intro H5 k5 TR5
        rw [putR_new (nd_takeG hnd hr1)] at TR5
        rw [take_get hr1]
        exact ⟨(k3.trans (Keep.of s4)).trans k5, TR5, _, rfl⟩
      · rintro σ H3 ⟨k3, TR3, v2, v3, rfl⟩
        refine hN _ _ ?_
        have e9 : rows.take (ts.map V.ref).length = rows := by rw [List.length_map, hle, List.take_length]
        rw [e9] at TR3
        have sm : Same H H3 := same_keep s1 k3 (fun q m => by rw [List.mem_singleton.mp m]; exact nd)
        have ea3 := k3 _ _ (by simpa using Ne.symm ne) ea
        have es3 := sm _ _ es
        repeat (first | walk_at "oxs" | simp only [es3])
        exact new_make (t := .table rs) (b := some d) hS sm ⟨d, rows, rfl, ⟨dx1, ea3⟩, TR3, Paired.mapP hv fun _ _ z => ⟨z.1.same sm, z.2.same sm⟩⟩ (foot_two ne) (free_two na nd) hl h
    · cases h
/-! ### elements -/
def getM (rows : List (RV × RV)) (k : RV) : MRes := if keyB k = true then (match lkG rows k with | some r => .val r rows | none => .err "KeyError" "no such key") else .err "KindError" badKey
def setM (rows : List (RV × RV)) (k v : RV) : MRes := if keyB k = true then (if lkG rows k = none ∧ rows.length = 1000 then .err "SizeError" "too large" else .val v (putG rows k v)) else .err "KindError" badKey
def spGetM (w : World) (c : Cs) : Sp := fun vs H Q E => match vs with
  | [.ref y, v, i] => ∃ x S n rows k, y = x.y ∧ Sto w c H x S ∧ IsVal c H v (.ob n) ∧ S.things[n]? = some (.table rows) ∧ IsVal c H i k ∧ ResM w c H x S n (getM rows k) Q E
  | _ => False
theorem ok_getM (A : At K mg "get_item" "get_item" s_get_item ["store", "x", "i"]) (T : Txt K mg c) (H_thing_of : Has P w K mg base CX0 "thing_of" 2 ["store", "value"] (spThing w c)) (H_kind_of : Has P w K mg base CX0 "kind_of" 3 ["store", "value"] (spKind w c)) (H_checked_key : Has P w K mg base (L2.CX P w) "checked_key" 3 ["i"] (spChkKeyR c)) (E_ScriptError : HasE P w K mg base c.ScriptError "ScriptError" 2 (two "kind" "message")) (M_Table_has : HasM P w K mg base CX0 c.Table "has" 2 ["self", "key"] (spHas w c)) (M_Table_value_of : HasM P w K mg base CX0 c.Table "value_of" 2 ["self", "key"] (spValOf w c)) : Has P w K mg base (L2.CX P w) "get_item" 4 ["store", "x", "i"] (spGetM w c) := by
  have Sc := sc_get_item
  refine hasX_of A Sc (fun vs H Q E h => ?_) (fun cdv f A outer s H vs Q E hr h => ?_)
  · unfold spGetM at h; split at h; rfl; cases h
  · unfold spGetM at h
    split at h
    · rename_i y v i
      obtain ⟨x, S, n, rows, k, rfl, hS, hv, et, hi, h⟩ := h
      have hw : WfR S (.ob n) := fun m e => by cases e; exact (List.getElem?_eq_some_iff.mp et).1
      refine ⟨_, (pss_cons (ps_if (pt_val (pe_callB (call_fIsiA T.kit) (by rfl) T.no_isinstance (by decide +kernel) (pa_cons (fe_var 1) (pa_cons (fe_ty (n := "str") (by rfl) T.no_str (by decide +kernel)) pa_nil)))) (pss_one (ps_ret (pe_ix ix_fx (fe_var 1) pe_dead (fun _ _ => rfl)))) pss_nil)
      (pss_cons (ps_set (i := 3) Sc.nd rfl (.inl rfl) (fe_call H_thing_of (hr.mono (by walk_at "rm")) (by rfl) pass0 (pa_cons (fe_var 0) (pa_cons (fe_var 1) pa_nil))))
      (pss_cons (ps_if (pt_val (pe_callB (call_fIsiO T.kit) (by rfl) T.no_isinstance (by decide +kernel) (pa_cons (fe_var 3) (pa_cons (pe_glob (v := .ref c.Parts) (by rfl) T.mg_Parts rfl) pa_nil)))) (pss_one (ps_ret (pe_ix ix_fx (fe_fld (fe_var 3) T.pl_held rfl) pe_dead (fun _ _ => rfl)))) pss_nil)
      (pss_cons (ps_if (pt_not (pt_val (pe_callB (call_fIsiO T.kit) (by rfl) T.no_isinstance (by decide +kernel) (pa_cons (fe_var 3) (pa_cons (pe_glob (v := .ref c.Table) (by rfl) T.mg_Table rfl) pa_nil))))) (pss_one (fs_raise rfl tk_of E_ScriptError (by decide) (hr.mono (by walk_at "rm")) (by rfl) (pa_cons pe_str (pa_cons (fe_joined (pf_cons pe_str (pf_cons (fe_fmt (fe_call H_kind_of (hr.mono (by walk_at "rm")) (by rfl) pass0 (pa_cons (fe_var 0) (pa_cons (fe_var 1) pa_nil)))) PF_nil))) pa_nil)))) pss_nil)
      (pss_cons (ps_if (pt_not (pt_val (fe_meth M_Table_has T.cl_Table (hr.mono (by walk_at "rm")) pass0 (fe_var 3) (pa_cons (fe_callX H_checked_key (hr.mono (by walk_at "rm")) (by rfl) tk_of (pa_cons (fe_var 2) pa_nil)) pa_nil)))) (pss_one (fs_raise rfl tk_of E_ScriptError (by decide) (hr.mono (by walk_at "rm")) (by rfl) (pa_cons pe_str (pa_cons pe_str pa_nil)))) pss_nil)
      (pss_one (ps_ret (fe_meth M_Table_value_of T.cl_Table (hr.mono (by walk_at "rm")) pass0 (fe_var 3) (pa_cons (fe_var 2) pa_nil))))))))), ?_⟩
      walk_at "fx0"
      obtain ⟨va, rfl, vdx, ev⟩ := id hv
      repeat (first | walk_at "oxs" | simp only [ev])
      refine ⟨x, S, .ob n, rfl, hS, hv, hw, fun tv h1 h2 _ => ?_⟩
      obtain ⟨a, b, rfl, ea, hT⟩ := h2 n _ rfl et
      obtain ⟨d, rws, rfl, ⟨dx, eh⟩, ht, hrr⟩ := id hT
      repeat (first | walk_at "oxs" | simp only [eh])
      refine ⟨k, hi, ?_⟩
      unfold getM at h
      split
      · rename_i hk
        rw [if_pos hk] at h
        have hsc := val_sc hk hi
        obtain ⟨ek, _⟩ := sc_val hsc hi
        intro H1 s1
        repeat (first | walk_at "oxs" | simp only [s1 _ _ eh])
        refine ⟨d, rws, ⟨dx, s1 _ _ eh⟩, ht.same s1, hsc, fun H2 s2 => ?_⟩
        repeat (first | walk_at "oxs" | simp only [s2 _ _ (s1 _ _ eh)])
        rcases link_at hsc hrr ht.sck with ⟨p, q, e1, e2, hpq⟩ | ⟨e1, e2⟩
        · rw [e1, if_neg (by simp)]
          rw [ek, e2] at h
          have s12 := s1.trans s2
          repeat (first | walk_at "oxs" | simp only [s2 _ _ (s1 _ _ eh)])
          refine ⟨d, rws, p, ⟨dx, s12 _ _ eh⟩, ht.same s12, hsc, e1, fun H3 s3 => ?_⟩
          exact ResM.stay hS et h (s12.trans s3) (hpq.same (s12.trans s3))
        · rw [e1, if_pos (by rfl)]
          rw [ek, e2] at h
          exact OutS.same h (s1.trans s2)
      · rename_i hk
        rw [if_neg hk] at h
        exact h
    · cases h
def spSetM (w : World) (c : Cs) : Sp := fun vs H Q E => match vs with
  | [.ref y, v, i, nv] => ∃ x S n rows k r, y = x.y ∧ Sto w c H x S ∧ IsVal c H v (.ob n) ∧ S.things[n]? = some (.table rows) ∧ rows.length ≤ 1000 ∧ IsVal c H i k ∧ IsVal c H nv r ∧ ResM w c H x S n (setM rows k r) Q E
  | _ => False
theorem ok_setM (A : At K mg "set_item" "set_item" s_set_item ["store", "x", "i", "value"]) (T : Txt K mg c) (H_thing_of : Has P w K mg base CX0 "thing_of" 2 ["store", "value"] (spThing w c)) (H_kind_of : Has P w K mg base CX0 "kind_of" 3 ["store", "value"] (spKind w c)) (H_checked_key : Has P w K mg base (L2.CX P w) "checked_key" 3 ["i"] (spChkKeyR c)) (H_put_key : Has P w K mg base (L2.CX P w) "put_key" 4 ["table", "key", "value"] (spPutKeyR w c)) (E_ScriptError : HasE P w K mg base c.ScriptError "ScriptError" 2 (two "kind" "message")) : Has P w K mg base (L2.CX P w) "set_item" 5 ["store", "x", "i", "value"] (spSetM w c) := by
  have Sc := sc_set_item
  refine hasX_of A Sc (fun vs H Q E h => ?_) (fun cdv f A outer s H vs Q E hr h => ?_)
  · unfold spSetM at h; split at h; rfl; cases h
  · unfold spSetM at h
    split at h
    · rename_i y v i nv
      obtain ⟨x, S, n, rows, k, r, rfl, hS, hv, et, hn, hi, hnv, h⟩ := h
      have hw : WfR S (.ob n) := fun m e => by cases e; exact (List.getElem?_eq_some_iff.mp et).1
      refine ⟨_, (pss_cons (ps_set (i := 4) Sc.nd rfl (.inl rfl) (fe_call H_thing_of (hr.mono (by walk_at "rm")) (by rfl) pass0 (pa_cons (fe_var 0) (pa_cons (fe_var 1) pa_nil))))
      (pss_cons (ps_if (pt_val (pe_callB (call_fIsiO T.kit) (by rfl) T.no_isinstance (by decide +kernel) (pa_cons (fe_var 4) (pa_cons (pe_glob (v := .ref c.Parts) (by rfl) T.mg_Parts rfl) pa_nil)))) (pss_one (ps_asg (fe_var 3) (pg_sub (fe_fld (fe_var 4) T.pl_held rfl) pe_dead set_fx))) (pss_one (ps_if (pt_val (pe_callB (call_fIsiO T.kit) (by rfl) T.no_isinstance (by decide +kernel) (pa_cons (fe_var 4) (pa_cons (pe_glob (v := .ref c.Table) (by rfl) T.mg_Table rfl) pa_nil)))) (pss_one (ps_expr (fe_callX H_put_key (hr.mono (by walk_at "rm")) (by rfl) tk_of (pa_cons (fe_var 4) (pa_cons (fe_callX H_checked_key (hr.mono (by walk_at "rm")) (by rfl) tk_of (pa_cons (fe_var 2) pa_nil)) (pa_cons (fe_var 3) pa_nil)))))) (pss_one (fs_raise rfl tk_of E_ScriptError (by decide) (hr.mono (by walk_at "rm")) (by rfl) (pa_cons pe_str (pa_cons (fe_joined (pf_cons pe_str (pf_cons (fe_fmt (fe_call H_kind_of (hr.mono (by walk_at "rm")) (by rfl) pass0 (pa_cons (fe_var 0) (pa_cons (fe_var 1) pa_nil)))) PF_nil))) pa_nil)))))))
      (pss_one (ps_ret (fe_var 3))))), ?_⟩
      walk_at "fx0"
      obtain ⟨va, rfl, vdx, ev⟩ := id hv
      repeat (first | walk_at "oxs" | simp only [ev])
      refine ⟨x, S, .ob n, rfl, hS, hv, hw, fun tv h1 h2 _ => ?_⟩
      obtain ⟨a, b, rfl, ea, hT⟩ := h2 n _ rfl et
      obtain ⟨d, rws, rfl, ⟨dx, eh⟩, ht, hrr⟩ := id hT
      have hlr : rws.length = rows.length := Paired.length hrr
      repeat (first | walk_at "oxs" | simp only [eh])
      refine ⟨k, hi, ?_⟩
      unfold setM at h
      split
      · rename_i hk
        rw [if_pos hk] at h
        have hsc := val_sc hk hi
        obtain ⟨ek, _⟩ := sc_val hsc hi
        have ls := link_some hsc hrr ht.sck
        rw [← ek] at ls
        intro H1 s1
        repeat (first | walk_at "oxs" | simp only [s1 _ _ eh])
        refine ⟨d, rws, ⟨dx, s1 _ _ eh⟩, ht.same s1, hsc, by omega, ?_⟩
        rw [ls, hlr]
        by_cases hq : lkG rows k = none ∧ rows.length = 1000
        · rw [if_pos hq] at h
          rw [if_pos ⟨by rw [hq.1]; rfl, hq.2⟩]
          exact OutS.same h s1
        · rw [if_neg hq] at h
          rw [if_neg (fun z => hq ⟨by simpa using z.1, z.2⟩)]
          intro H2 k2 ht2
          have k12 := (Keep.of s1).trans k2
          have hs := keepd_hs (c := c) ht k12
          refine ResM.tab hS ea ⟨dx, eh⟩ ht h k12 ht2 ?_ (hnv.hs hs)
          rw [ek]
          exact link_put hsc (hnv.hs hs) (RowsR.hs hrr hs) ht.sck
      · rename_i hk
        rw [if_neg hk] at h
        exact h
    · cases h
/-! ### methods of maps -/
def spRemK (w : World) (c : Cs) : Sp := fun vs H Q E => match vs with
  | [.ref a, k] => ∃ d rws, IsTab c H a d ∧ TabR w H d rws ∧ scV k = true ∧ match rowAt rws k with
    | none => OutS c H "KeyError" "no such key" E
    | some v => ∀ H1, Keep [d] H H1 → TabR w H1 d (dropR rws k) → Q v H1
  | _ => False
theorem ok_remkey (A : At K mg "remove_key" "remove_key" s_remove_key ["table", "key"]) (T : Txt K mg c) (M_Table_has : HasM P w K mg base CX0 c.Table "has" 2 ["self", "key"] (spHas w c)) (M_Table_value_of : HasM P w K mg base CX0 c.Table "value_of" 2 ["self", "key"] (spValOf w c)) (M_Table_take_out : HasM P w K mg base CX0 c.Table "take_out" 2 ["self", "key"] (spTake w c)) (E_ScriptError : HasE P w K mg base c.ScriptError "ScriptError" 2 (two "kind" "message")) : Has P w K mg base (L2.CX P w) "remove_key" 3 ["table", "key"] (spRemK w c) := by
  have Sc := sc_remove_key
  refine hasX_of A Sc (fun vs H Q E h => ?_) (fun cdv f A outer s H vs Q E hr h => ?_)
  · unfold spRemK at h; split at h; rfl; cases h
  · unfold spRemK at h
    split at h
    · rename_i a k
      obtain ⟨d, rws, ⟨dx, ea⟩, ht, hk, h⟩ := h
      refine ⟨_, (pss_cons (ps_if (pt_not (pt_val (fe_meth M_Table_has T.cl_Table (hr.mono (by walk_at "rm")) pass0 (fe_var 0) (pa_cons (fe_var 1) pa_nil)))) (pss_one (fs_raise rfl tk_of E_ScriptError (by decide) (hr.mono (by walk_at "rm")) (by rfl) (pa_cons pe_str (pa_cons pe_str pa_nil)))) pss_nil)
      (pss_cons (ps_set (i := 2) Sc.nd rfl (.inl rfl) (fe_meth M_Table_value_of T.cl_Table (hr.mono (by walk_at "rm")) pass0 (fe_var 0) (pa_cons (fe_var 1) pa_nil)))
      (pss_cons (ps_expr (fe_meth M_Table_take_out T.cl_Table (hr.mono (by walk_at "rm")) pass0 (fe_var 0) (pa_cons (fe_var 1) pa_nil)))
      (pss_one (ps_ret (fe_var 2)))))), ?_⟩
      walk_at "fx0"
      repeat (first | walk_at "oxs" | simp only [ea])
      refine ⟨d, rws, ⟨dx, ea⟩, ht, hk, fun H1 s1 => ?_⟩
      have ea1 := s1 _ _ ea
      repeat (first | walk_at "oxs" | simp only [ea1])
      cases e : rowAt rws k with
      | none =>
        rw [e] at h
        rw [if_pos (by rfl)]
        exact OutS.same h s1
      | some v =>
        rw [e] at h
        rw [if_neg (by simp)]
        refine ⟨d, rws, v, ⟨dx, ea1⟩, ht.same s1, hk, e, fun H2 s2 => ?_⟩
        have ea2 := s2 _ _ ea1
        repeat (first | walk_at "oxs" | simp only [ea2])
        exact ⟨d, rws, ⟨dx, ea2⟩, (ht.same s1).same s2, hk, by rw [e]; rfl, fun H3 k3 ht3 => h H3 ((Keep.of (s1.trans s2)).trans k3) ht3⟩
    · cases h
def spMergeK (w : World) (c : Cs) : Sp := fun vs H Q E => match vs with
  | [.ref a, .ref b] => ∃ d rws d2 ows, IsTab c H a d ∧ TabR w H d rws ∧ IsTab c H b d2 ∧ TabR w H d2 ows ∧ rws.length ≤ 1000 ∧ ows.length ≤ 1000 ∧ (if 1000 < rws.length + freshR rws ows then OutS c H "SizeError" "too large" E else ∀ H1, Keep [d] H H1 → TabR w H1 d (mergeR rws ows) → Q .non H1)
  | _ => False
theorem ok_mergek (A : At K mg "merge_into" "merge_into" s_merge_into ["table", "other"]) (T : Txt K mg c) (M_Table_has : HasM P w K mg base CX0 c.Table "has" 2 ["self", "key"] (spHas w c)) (M_Table_put : HasM P w K mg base CX0 c.Table "put" 2 ["self", "key", "value"] (spPut w c)) (M_Table_pairs : HasM P w K mg base CX0 c.Table "pairs" 1 ["self"] (spPairs w c)) (P_Table_many : HasP P w K mg base CX0 c.Table "many" 1 ["self"] (spMany w c)) (H_check_parts : Has P w K mg base (L2.CX P w) "check_parts" 3 ["count"] (spCheck c)) : Has P w K mg base (L2.CX P w) "merge_into" 4 ["table", "other"] (spMergeK w c) := by
  have Sc := sc_merge_into
  refine hasX_of A Sc (fun vs H Q E h => ?_) (fun cdv f A outer s H vs Q E hr h => ?_)
  · unfold spMergeK at h; split at h; rfl; cases h
  · unfold spMergeK at h
    split at h
    · rename_i a b
      obtain ⟨d, rws, d2, ows, ⟨dx, ea⟩, ht, ⟨dx2, eb⟩, ht2, hn, hn2, h⟩ := h
      refine ⟨_, (pss_cons (ps_set (i := 2) Sc.nd rfl (.inl rfl) (fe_meth0 M_Table_pairs T.cl_Table (hr.mono (by walk_at "rm")) pass0 (fe_var 1)))
      (pss_cons (ps_setLc (i := 3) (own := [("key", 4), ("_", 6)]) (by rfl) Sc.nd rfl rfl (sw_true rfl rfl rfl (by decide +kernel)) (pi_list (fe_var 2)) (blkOk_by (own := [("key", 4), ("_", 6)]) (N := ["table", "other", "pairs", "fresh", "key", "value", "_"]) (sc := defScope s_merge_into) (by decide +kernel)) (fun _ _ _ _ _ => (pg_tupK (K := K) (n := 2) rfl rfl (pgs_cons (pg_name (i := 4) Sc.nd rfl (.inl rfl)) (pgs_cons (pg_name (i := 6) Sc.nd rfl (.inl rfl)) pgs_nil)))) (fun _ _ _ _ _ => (pts_one (pt_not (pt_val (fe_meth M_Table_has T.cl_Table (hr.mono (by walk_at "rm")) pass0 (fe_var 0) (pa_cons (fe_var 4) pa_nil)))))) (fun _ _ _ _ _ => (fe_var 4)))
      (pss_cons (ps_expr (fe_callX H_check_parts (hr.mono (by walk_at "rm")) (by rfl) tk_of (pa_cons (pe_op op_fAdd (fe_prop P_Table_many T.cl_Table (hr.mono (by walk_at "rm")) pass0 (fe_var 0) rfl) (pe_callB call_fLen (by rfl) T.no_len (by decide +kernel) (pa_cons (fe_var 3) pa_nil))) pa_nil)))
      (pss_one (ps_for (passes_of rfl) rfl (pi_list (fe_var 2)) (pg_tup (n := 2) rfl (pgs_cons (pg_name (i := 4) Sc.nd rfl (.inl rfl)) (pgs_cons (pg_name (i := 5) Sc.nd rfl (.inl rfl)) pgs_nil))) (pss_one (ps_expr (fe_meth M_Table_put T.cl_Table (hr.mono (by walk_at "rm")) pass0 (fe_var 0) (pa_cons (fe_var 4) (pa_cons (fe_var 5) pa_nil)))))))))), ?_⟩
      walk_at "fx0"
      repeat (first | walk_at "oxs" | simp only [eb])
      refine ⟨d2, ows, ⟨dx2, eb⟩, ht2, by omega, fun p ts H1 np s1 ep hts => ?_⟩
      have hle : ts.length = ows.length := Paired.length hts
      have ea1 := s1 _ _ ea
      repeat (first | walk_at "oxs" | simp only [ea1])
      refine cute_ fun N hN => ?_
      refine lc_ ?_
      walk_at "ox"
      refine ⟨⟨_, .inl (.inl ep)⟩, fun D nD => ?_⟩
      refine lcx_list (xs := ts.map V.ref) (fun i H' => Same H1 H' ∧ H' D = some (.lst (((ows.take i).filter fun r => !(rowAt rws r.1).isSome).map (·.1)))) ⟨same_new nD, upd_same⟩ (fun i H' _ ⟨s2, _⟩ => .inl (.inl (s2 _ _ ep))) ?_ ?_
      · rintro i v H2 hx ⟨s2, eD⟩
        rw [List.getElem?_map] at hx
        obtain ⟨t, et, rfl⟩ := Option.map_eq_some_iff.mp hx
        obtain ⟨r, hr1, hr2⟩ := paired_get hts et
        walk_at "ox"
        refine ⟨_, SqT.of (s2 _ _ hr2), ?_⟩
        walk_at "ox"
        have ea2 := s2 _ _ ea1
        have S2 := s1.trans s2
        simp only [ea2]
        walk_at "ox"
        have hk := ht2.sck r (List.mem_of_getElem? hr1)
        refine ⟨d, rws, ⟨dx, ea2⟩, ht.same S2, hk, fun H3 s3 => ?_⟩
        have eD3 := s3 _ _ eD
        have st : ∀ H4, Same H1 H4 → H4 D = some (.lst ((((ows.take i).filter fun r => !(rowAt rws r.1).isSome).map (·.1)) ++ if (rowAt rws r.1).isSome = false then [r.1] else [])) → Same H1 H4 ∧ H4 D = some (.lst (((ows.take (i + 1)).filter fun r => !(rowAt rws r.1).isSome).map (·.1))) := fun H4 s4 e4 => by
          refine ⟨s4, ?_⟩
          have e0 : (([r].filter fun r => !(rowAt rws r.1).isSome).map (·.1)) = if (rowAt rws r.1).isSome = false then [r.1] else [] := by
            rw [List.filter_cons, List.filter_nil]
            cases (rowAt rws r.1).isSome <;> rfl
          rw [e4, take_getG hr1, List.filter_append, List.map_append, e0]
        walk_at "ox"
        split
        · rename_i q
          have z := st (upd H3 D (.lst ((((ows.take i).filter fun r => !(rowAt rws r.1).isSome).map (·.1)) ++ [r.1]))) (mk_same (s2.trans s3) nD) (by rw [upd_same, if_pos q])
          rw [upd_same, Option.some.injEq] at z
          refine ⟨_, eD3, ?_, z⟩
          have := List.length_filter_le (fun r => !(rowAt rws r.1).isSome) (ows.take i)
          rw [List.length_take] at this
          rw [List.length_map, sizeLine_eq]
          omega
        · rename_i q
          exact st _ (s2.trans s3) (by rw [eD3, if_neg q, List.append_nil])
      · rintro H2 ⟨s2, eD⟩
        rw [List.length_map, hle, List.take_length] at eD
        refine hN _ _ ?_
        clear hN N
        have ea2 := s2 _ _ ea1
        have S2 := s1.trans s2
        repeat (first | walk_at "oxs" | simp only [ea2])
        refine ⟨d, rws, ⟨dx, ea2⟩, ht.same S2, _, rl_l eD, ?_⟩
        rw [List.length_map]
        show spCheck c [.int ((rws.length : Nat) + ((freshR rws ows : Nat) : Int))] H2 _ E
        unfold spCheck
        dsimp only
        split
        · rename_i q
          rw [if_pos (by omega)] at h
          exact OutS.same h S2
        · rename_i q
          rw [if_neg (by omega)] at h
          refine for_ ?_
          repeat (walk_at "oxs")
          refine ⟨⟨_, .inl (.inl (s2 _ _ ep))⟩, ?_⟩
          have nt : ∀ {t : Addr} {xs : List V}, H t = none → H1 t = some (.tup xs) → t ≠ d := fun e1 _ z => by
            obtain ⟨⟨es', D', e0, r'⟩, _⟩ := ht
            rw [z, e0] at e1; cases e1
          refine loop_list (ts.map V.ref) (fun i σ H' => Keep [d] H2 H' ∧ TabR w H' d (mergeR rws (ows.take i)) ∧ ∃ v4 v5 v6, σ = [some (.ref a), some (.ref b), some (.ref p), some (.ref D), v4, v5, v6]) ⟨Keep.refl, ht.same S2, _, _, _, rfl⟩ (fun i σ H' _ ⟨k, _⟩ => .inl (.inl (k _ _ (by
            have : p ≠ d := fun z => by
              obtain ⟨⟨es', D', e0, r'⟩, _⟩ := ht
              rw [z, e0] at np; cases np
            simpa using this) (s2 _ _ ep)))) ?_ ?_
          · rintro i v σ H3 hx ⟨k3, ht3, v4, v5, v6, rfl⟩
            rw [List.getElem?_map] at hx
            obtain ⟨t, et, rfl⟩ := Option.map_eq_some_iff.mp hx
            obtain ⟨r, hr1, hr2⟩ := paired_get hts et
            have htd : t ≠ d := fun z => by
              obtain ⟨⟨es', D', e0, r'⟩, _⟩ := ht.same s1
              rw [z, e0] at hr2
              have z' : HO.ext _ = HO.tup _ := Option.some.inj hr2
              cases z'
            have had : a ≠ d := fun z => by
              obtain ⟨⟨es', D', e0, r'⟩, _⟩ := ht
              rw [z, e0] at ea
              have z' : HO.ext _ = HO.ins _ _ _ := Option.some.inj ea
              cases z'
            have ea3 := k3 _ _ (by simpa using had) ea2
            walk_at "ox"
            refine ⟨_, SqT.of (k3 _ _ (by simpa using htd) (s2 _ _ hr2)), ?_⟩
            walk_at "ox"
            simp only [ea3]
            walk_at "ox"
            have hl3 := mergeR_len (ows.take i) rws
            rw [List.length_take] at hl3
            refine ⟨d, _, ⟨dx, ea3⟩, ht3, ht2.sck r (List.mem_of_getElem? hr1), by omega, fun H4 k4 ht4 => ?_⟩
            refine ⟨k3.trans k4, ?_, (by first | exact ⟨_, _, _, rfl⟩ | exact ⟨_, _, rfl⟩ | exact ⟨_, rfl⟩ | exact rfl | trivial)⟩
            rw [take_getG hr1]
            unfold mergeR at ht4 ⊢
            rw [List.foldl_append]
            exact ht4
          · rintro σ H3 ⟨k3, ht3, v4, v5, v6, rfl⟩
            rw [List.length_map, hle, List.take_length] at ht3
            walk_at "ox"
            exact h H3 ((Keep.of S2).trans k3) ht3
    · cases h
def spClearK (w : World) (c : Cs) : Sp := fun vs H Q _ => match vs with
  | [.ref a] => ∃ d rws, IsTab c H a d ∧ TabR w H d rws ∧ rws.length ≤ 1000 ∧ ∀ H1, Keep [d] H H1 → TabR w H1 d [] → Q .non H1
  | _ => False
theorem ok_cleark (A : At K mg "clear_all" "clear_all" s_clear_all ["table"]) (T : Txt K mg c) (M_Table_take_out : HasM P w K mg base CX0 c.Table "take_out" 2 ["self", "key"] (spTake w c)) (M_Table_pairs : HasM P w K mg base CX0 c.Table "pairs" 1 ["self"] (spPairs w c)) : Has P w K mg base CX0 "clear_all" 3 ["table"] (spClearK w c) := by
  have Sc := sc_clear_all
  refine has_of A Sc (fun vs H Q E h => ?_) (fun cdv f A outer s H vs Q E hr h => ?_)
  · unfold spClearK at h; split at h; rfl; cases h
  · unfold spClearK at h
    split at h
    · rename_i a
      obtain ⟨d, rws, ⟨dx, ea⟩, ht, hn, h⟩ := h
      have had : a ≠ d := fun z => by
        obtain ⟨⟨es', D', e0, r'⟩, _⟩ := ht
        rw [z, e0] at ea
        have z' : HO.ext _ = HO.ins _ _ _ := Option.some.inj ea
        cases z'
      refine ⟨_, (pss_one (ps_for PassesOwn.never rfl (pi_list (fe_meth0 M_Table_pairs T.cl_Table (hr.mono (by walk_at "rm")) pass0 (fe_var 0))) (pg_tup (n := 2) rfl (pgs_cons (pg_name (i := 1) Sc.nd rfl (.inl rfl)) (pgs_cons (pg_name (i := 2) Sc.nd rfl (.inl rfl)) pgs_nil))) (pss_one (ps_expr (fe_meth M_Table_take_out T.cl_Table (hr.mono (by walk_at "rm")) pass0 (fe_var 0) (pa_cons (fe_var 1) pa_nil)))))), ?_⟩
      walk_at "fx0"
      refine for_ ?_
      repeat (first | walk_at "oxs" | simp only [ea])
      refine ⟨d, rws, ⟨dx, ea⟩, ht, by omega, fun p ts H1 np s1 ep hts => ?_⟩
      have hle : ts.length = rws.length := Paired.length hts
      have ea1 := s1 _ _ ea
      have npd : p ≠ d := fun z => by
        obtain ⟨⟨es', D', e0, r'⟩, _⟩ := ht
        rw [z, e0] at np; cases np
      repeat (walk_at "oxs")
      refine ⟨⟨_, .inl (.inl ep)⟩, ?_⟩
      refine loop_list (ts.map V.ref) (fun i σ H' => Keep [d] H1 H' ∧ TabR w H' d (rws.drop i) ∧ ∃ v1 v2, σ = [some (.ref a), v1, v2]) ⟨Keep.refl, ht.same s1, _, _, rfl⟩ (fun i σ H' _ ⟨k, _⟩ => .inl (.inl (k _ _ (by simpa using npd) ep))) ?_ ?_
      · rintro i v σ H3 hx ⟨k3, ht3, v1, v2, rfl⟩
        rw [List.getElem?_map] at hx
        obtain ⟨t, et, rfl⟩ := Option.map_eq_some_iff.mp hx
        obtain ⟨r, hr1, hr2⟩ := paired_get hts et
        have htd : t ≠ d := fun z => by
          obtain ⟨⟨es', D', e0, r'⟩, _⟩ := ht.same s1
          rw [z, e0] at hr2
          have z' : HO.ext _ = HO.tup _ := Option.some.inj hr2
          cases z'
        have ea3 := k3 _ _ (by simpa using had) ea1
        obtain ⟨hi, hri⟩ := List.getElem?_eq_some_iff.mp hr1
        have edrop : rws.drop i = r :: rws.drop (i + 1) := by rw [List.drop_eq_getElem_cons hi, hri]
        have nd3 := ht3.nd
        rw [edrop, List.map_cons, List.nodup_cons] at nd3
        walk_at "ox"
        refine ⟨_, SqT.of (k3 _ _ (by simpa using htd) hr2), ?_⟩
        walk_at "ox"
        simp only [ea3]
        walk_at "ox"
        refine ⟨d, _, ⟨dx, ea3⟩, ht3, ht.sck r (List.mem_of_getElem? hr1), by rw [rowAt_mem, edrop, List.map_cons]; exact List.mem_cons_self .., fun H4 k4 ht4 => ?_⟩
        refine ⟨k3.trans k4, ?_, (by first | exact ⟨_, _, _, rfl⟩ | exact ⟨_, _, rfl⟩ | exact ⟨_, rfl⟩ | exact rfl | trivial)⟩
        have e5 : dropR (rws.drop i) r.1 = rws.drop (i + 1) := by
          rw [edrop]
          have : dropR (r :: rws.drop (i + 1)) r.1 = dropR (rws.drop (i + 1)) r.1 := by
            unfold dropR
            rw [List.filter_cons, if_neg (by simp)]
          rw [this, drop_off nd3.1]
        rw [e5] at ht4
        exact ht4
      · rintro σ H3 ⟨k3, ht3, v1, v2, rfl⟩
        rw [List.length_map, hle, List.drop_length] at ht3
        walk_at "ox"
        exact h H3 ((Keep.of s1).trans k3) ht3
    · cases h
def spCopyK (w : World) (c : Cs) : Sp := fun vs H Q _ => match vs with
  | [.ref y, .ref a] => ∃ x S d rws rows, y = x.y ∧ Sto w c H x S ∧ IsTab c H a d ∧ TabR w H d rws ∧ RowsR c H rws rows ∧ rws.length ≤ 1000 ∧ S.things.length < 99999 ∧ NewTh w c H x S (.table rows) Q
  | _ => False
theorem ok_copyk (A : At K mg "copy_of" "copy_of" s_copy_of ["store", "table"]) (T : Txt K mg c) (M_Table : HasC P w K mg base CX0 c.Table "Table" 1 ["self"] (spMkTab w c)) (M_Table_put : HasM P w K mg base CX0 c.Table "put" 2 ["self", "key", "value"] (spPut w c)) (M_Table_pairs : HasM P w K mg base CX0 c.Table "pairs" 1 ["self"] (spPairs w c)) (M_Store_make : HasM P w K mg base CX0 c.Store "make" 3 ["self", "thing"] (spMake w c)) : Has P w K mg base CX0 "copy_of" 4 ["store", "table"] (spCopyK w c) := by
  have Sc := sc_copy_of
  refine has_of A Sc (fun vs H Q E h => ?_) (fun cdv f A outer s H vs Q E hr h => ?_)
  · unfold spCopyK at h; split at h; rfl; cases h
  · unfold spCopyK at h
    split at h
    · rename_i y b
      obtain ⟨x, S, d0, rows, rs, rfl, hS, ⟨dx0, eb⟩, ht0, hv, hn, hl, h⟩ := h
      obtain ⟨sdx, es⟩ := hS.st
      have hnd := ht0.nd
      refine ⟨_, (pss_cons (ps_set (i := 2) Sc.nd rfl (.inl rfl) (fe_make0 M_Table (hr.mono (by walk_at "rm")) (by rfl) pass0))
      (pss_cons (ps_for PassesOwn.never rfl (pi_list (fe_meth0 M_Table_pairs T.cl_Table (hr.mono (by walk_at "rm")) pass0 (fe_var 1))) (pg_tup (n := 2) rfl (pgs_cons (pg_name (i := 3) Sc.nd rfl (.inl rfl)) (pgs_cons (pg_name (i := 4) Sc.nd rfl (.inl rfl)) pgs_nil))) (pss_one (ps_expr (fe_meth M_Table_put T.cl_Table (hr.mono (by walk_at "rm")) pass0 (fe_var 2) (pa_cons (fe_var 3) (pa_cons (fe_var 4) pa_nil))))))
      (pss_one (ps_ret (fe_meth M_Store_make T.cl_Store (hr.mono (by walk_at "rm")) pass0 (fe_var 0) (pa_cons (fe_var 2) pa_nil)))))), ?_⟩
      walk_at "fx0"
      walk_at "ox"
      intro a d H1 na nd s1 ⟨dx1, ea⟩ TR0
      have ne : d ≠ a := fun z => by obtain ⟨⟨es', D, e0, r⟩, _⟩ := TR0; rw [z, ea] at e0; cases e0
      refine cut_ fun N hN => for_ ?_
      repeat (first | walk_at "oxs" | simp only [s1 _ _ eb])
      refine ⟨d0, rows, ⟨dx0, s1 _ _ eb⟩, ht0.same s1, by omega, fun l ts H2 nl s2 el hts => ?_⟩
      have hle : ts.length = rows.length := Paired.length hts
      have TR2 := TR0.same s2
      have ea2 := s2 _ _ ea
      have nld : l ≠ d := fun z => by obtain ⟨⟨es', D, e0, r⟩, _⟩ := TR0; rw [z, e0] at nl; cases nl
      repeat (walk_at "oxs")
      refine ⟨⟨_, .inl (.inl el)⟩, ?_⟩
      refine loop_list (ts.map V.ref) (fun i σ H' => Keep [d] H2 H' ∧ TabR w H' d (rows.take i) ∧ ∃ v3 v4, σ = [some (.ref x.y), some (.ref b), some (.ref a), v3, v4]) ⟨Keep.refl, TR2, _, _, rfl⟩ (fun i σ H' _ ⟨k, _⟩ => .inl (.inl (k _ _ (by simpa using nld) el))) ?_ ?_
      · rintro i v σ H3 hx ⟨k3, TR3, v2, v3, rfl⟩
        rw [List.getElem?_map] at hx
        obtain ⟨t, et, rfl⟩ := Option.map_eq_some_iff.mp hx
        obtain ⟨r, hr1, hr2⟩ := paired_get hts et
        have htd : t ≠ d := fun z => by
          obtain ⟨⟨es', D', e0, r'⟩, _⟩ := TR2
          rw [z, e0] at hr2
          have z' : HO.ext _ = HO.tup _ := Option.some.inj hr2
          cases z'
        have ea3 := k3 _ _ (by simpa using Ne.symm ne) ea2
        have hi := (List.getElem?_eq_some_iff.mp hr1).1
        have hk := ht0.sck _ (List.mem_of_getElem? hr1)
        walk_at "ox"
        refine ⟨_, SqT.of (k3 _ _ (by simpa using htd) hr2), ?_⟩
        walk_at "ox"
        simp only [ea3]
        walk_at "ox"
        refine ⟨d, _, ⟨dx1, ea3⟩, TR3, hk, by rw [List.length_take]; omega, fun H4 k4 TR4 => ?_⟩
        rw [putR_new (nd_takeG hnd hr1)] at TR4
        rw [take_getG hr1]
        exact ⟨k3.trans k4, TR4, (by first | exact ⟨_, _, _, rfl⟩ | exact ⟨_, _, rfl⟩ | exact ⟨_, rfl⟩ | exact rfl | trivial)⟩
      · rintro σ H3 ⟨k3, TR3, v2, v3, rfl⟩
        refine hN _ _ ?_
        rw [List.length_map, hle, List.take_length] at TR3
        have sm : Same H H3 := same_keep (s1.trans s2) k3 (fun q m => by rw [List.mem_singleton.mp m]; exact nd)
        have ea3 := k3 _ _ (by simpa using Ne.symm ne) ea2
        have es3 := sm _ _ es
        repeat (first | walk_at "oxs" | simp only [es3])
        exact new_make (t := .table rs) (b := some d) hS sm ⟨d, rows, rfl, ⟨dx1, ea3⟩, TR3, RowsR.hs hv (.same sm)⟩ (foot_two ne) (free_two na nd) hl h
    · cases h
end

section
variable {P : Program} {w : World} {K : PySem.W.Frag} {mg : Str → Option Value} {base : Heap} {c : Cs}
/-! ### listed, call_map, call_method of maps -/
def MadeQ (w : World) (c : Cs) (H : Hp) (x : SA) (S : SV) (ts : List Th) (Q : VK) : Prop := ∀ v x' H1, Keep [x.tl] H H1 → Sto w c H1 x' (S.adds ts) → (∀ q ∈ x'.foot, q ∈ x.foot ∨ H q = none) → x'.y = x.y → x'.tl = x.tl → IsVal c H1 v (.ob (S.things.length + ts.length - 1)) → Q v H1
theorem MadeQ.new {H : Hp} {x : SA} {S : SV} {t : Th} {Q : VK} (h : MadeQ w c H x S [t] Q) : NewTh w c H x S t Q := fun r a b H1 nr nf k st hr => h (.ref r) (x.add a b) H1 k st (fun q m => by
  rw [foot_add] at m
  rcases List.mem_append.mp m with m | m
  · exact .inl m
  · exact .inr (nf q m)) rfl rfl ⟨r, rfl, by
    rw [show S.things.length + [t].length - 1 = S.things.length from by simp]; exact hr⟩
theorem MadeQ.same {H H1 : Hp} {x : SA} {S : SV} {ts : List Th} {Q : VK} (h : MadeQ w c H x S ts Q) (s : Same H H1) : MadeQ w c H1 x S ts Q := fun v x' H2 k st hf hy ht hr => h v x' H2 ((Keep.of s).trans k) st (fun q m => (hf q m).imp id s.free) hy ht hr
theorem vs_map {H : Hp} {rws : List (V × V)} {rows : List (RV × RV)} (h : RowsR c H rws rows) : VsAt c H (rws.map (·.1)) (rows.map (·.1)) ∧ VsAt c H (rws.map (·.2)) (rows.map (·.2)) := by
  induction h with
  | nil => exact ⟨.nil, .nil⟩
  | cons a t ih => exact ⟨.cons a.1 ih.1, .cons a.2 ih.2⟩
theorem vs_app {H : Hp} {xs ys : List V} {rs ts : List RV} (h : VsAt c H xs rs) (g : VsAt c H ys ts) : VsAt c H (xs ++ ys) (rs ++ ts) := by
  induction h with
  | nil => exact g
  | cons a t ih => exact .cons a ih
def itemsT (S : SV) (rows : List (RV × RV)) : List Th := (rows.map fun r => Th.parts [r.1, r.2]) ++ [.parts ((List.range rows.length).map fun i => RV.ob (S.things.length + i))]
def spListed (w : World) (c : Cs) : Sp := fun vs H Q _ => match vs with
  | [.ref y, .ref a, .str name] => ∃ x S d rws rows, y = x.y ∧ Sto w c H x S ∧ IsTab c H a d ∧ TabR w H d rws ∧ RowsR c H rws rows ∧ rws.length ≤ 1000 ∧ S.things.length < 90000 ∧
    ((name = "keys" ∧ MadeQ w c H x S [.parts (rows.map (·.1))] Q) ∨ (name = "values" ∧ MadeQ w c H x S [.parts (rows.map (·.2))] Q) ∨ (name = "items" ∧ MadeQ w c H x S (itemsT S rows) Q))
  | _ => False
def ItmI (w : World) (c : Cs) (x : SA) (S : SV) (rows : List (RV × RV)) (H0 : Hp) (D : Addr) (i : Nat) (H' : Hp) : Prop := ∃ x' vs, Keep [x.tl, D] H0 H' ∧ Sto w c H' x' (S.adds ((rows.take i).map fun r => Th.parts [r.1, r.2])) ∧ (∀ q ∈ x'.foot, (q ∈ x.foot ∨ H0 q = none) ∧ q ≠ D) ∧ x'.y = x.y ∧ x'.tl = x.tl ∧ H' D = some (.lst vs) ∧ VsAt c H' vs ((List.range i).map fun j => RV.ob (S.things.length + j))
theorem adds_add {S : SV} {ts : List Th} {t : Th} : (S.adds ts).add t = S.adds (ts ++ [t]) := by
  unfold SV.adds SV.add
  simp only [List.append_assoc]
theorem mapne : (("has" : Str) == "remove") = false ∧ ¬ (("has" : Str) = "remove") ∧ (("has" : Str) == "keys") = false ∧ ¬ (("has" : Str) = "keys") ∧ (("has" : Str) == "values") = false ∧ ¬ (("has" : Str) = "values") ∧ (("has" : Str) == "items") = false ∧ ¬ (("has" : Str) = "items") ∧ (("has" : Str) == "get") = false ∧ ¬ (("has" : Str) = "get") ∧ (("has" : Str) == "merge") = false ∧ ¬ (("has" : Str) = "merge") ∧ (("has" : Str) == "copy") = false ∧ ¬ (("has" : Str) = "copy") ∧ (("has" : Str) == "clear") = false ∧ ¬ (("has" : Str) = "clear") ∧ (("has" : Str) == "length") = false ∧ ¬ (("has" : Str) = "length") ∧ (("remove" : Str) == "has") = false ∧ ¬ (("remove" : Str) = "has") ∧ (("remove" : Str) == "keys") = false ∧ ¬ (("remove" : Str) = "keys") ∧ (("remove" : Str) == "values") = false ∧ ¬ (("remove" : Str) = "values") ∧ (("remove" : Str) == "items") = false ∧ ¬ (("remove" : Str) = "items") ∧ (("remove" : Str) == "get") = false ∧ ¬ (("remove" : Str) = "get") ∧ (("remove" : Str) == "merge") = false ∧ ¬ (("remove" : Str) = "merge") ∧ (("remove" : Str) == "copy") = false ∧ ¬ (("remove" : Str) = "copy") ∧ (("remove" : Str) == "clear") = false ∧ ¬ (("remove" : Str) = "clear") ∧ (("remove" : Str) == "length") = false ∧ ¬ (("remove" : Str) = "length") ∧ (("keys" : Str) == "has") = false ∧ ¬ (("keys" : Str) = "has") ∧ (("keys" : Str) == "remove") = false ∧ ¬ (("keys" : Str) = "remove") ∧ (("keys" : Str) == "values") = false ∧ ¬ (("keys" : Str) = "values") ∧ (("keys" : Str) == "items") = false ∧ ¬ (("keys" : Str) = "items") ∧ (("keys" : Str) == "get") = false ∧ ¬ (("keys" : Str) = "get") ∧ (("keys" : Str) == "merge") = false ∧ ¬ (("keys" : Str) = "merge") ∧ (("keys" : Str) == "copy") = false ∧ ¬ (("keys" : Str) = "copy") ∧ (("keys" : Str) == "clear") = false ∧ ¬ (("keys" : Str) = "clear") ∧ (("keys" : Str) == "length") = false ∧ ¬ (("keys" : Str) = "length") ∧ (("values" : Str) == "has") = false ∧ ¬ (("values" : Str) = "has") ∧ (("values" : Str) == "remove") = false ∧ ¬ (("values" : Str) = "remove") ∧ (("values" : Str) == "keys") = false ∧ ¬ (("values" : Str) = "keys") ∧ (("values" : Str) == "items") = false ∧ ¬ (("values" : Str) = "items") ∧ (("values" : Str) == "get") = false ∧ ¬ (("values" : Str) = "get") ∧ (("values" : Str) == "merge") = false ∧ ¬ (("values" : Str) = "merge") ∧ (("values" : Str) == "copy") = false ∧ ¬ (("values" : Str) = "copy") ∧ (("values" : Str) == "clear") = false ∧ ¬ (("values" : Str) = "clear") ∧ (("values" : Str) == "length") = false ∧ ¬ (("values" : Str) = "length") ∧ (("items" : Str) == "has") = false ∧ ¬ (("items" : Str) = "has") ∧ (("items" : Str) == "remove") = false ∧ ¬ (("items" : Str) = "remove") ∧ (("items" : Str) == "keys") = false ∧ ¬ (("items" : Str) = "keys") ∧ (("items" : Str) == "values") = false ∧ ¬ (("items" : Str) = "values") ∧ (("items" : Str) == "get") = false ∧ ¬ (("items" : Str) = "get") ∧ (("items" : Str) == "merge") = false ∧ ¬ (("items" : Str) = "merge") ∧ (("items" : Str) == "copy") = false ∧ ¬ (("items" : Str) = "copy") ∧ (("items" : Str) == "clear") = false ∧ ¬ (("items" : Str) = "clear") ∧ (("items" : Str) == "length") = false ∧ ¬ (("items" : Str) = "length") ∧ (("get" : Str) == "has") = false ∧ ¬ (("get" : Str) = "has") ∧ (("get" : Str) == "remove") = false ∧ ¬ (("get" : Str) = "remove") ∧ (("get" : Str) == "keys") = false ∧ ¬ (("get" : Str) = "keys") ∧ (("get" : Str) == "values") = false ∧ ¬ (("get" : Str) = "values") ∧ (("get" : Str) == "items") = false ∧ ¬ (("get" : Str) = "items") ∧ (("get" : Str) == "merge") = false ∧ ¬ (("get" : Str) = "merge") ∧ (("get" : Str) == "copy") = false ∧ ¬ (("get" : Str) = "copy") ∧ (("get" : Str) == "clear") = false ∧ ¬ (("get" : Str) = "clear") ∧ (("get" : Str) == "length") = false ∧ ¬ (("get" : Str) = "length") ∧ (("merge" : Str) == "has") = false ∧ ¬ (("merge" : Str) = "has") ∧ (("merge" : Str) == "remove") = false ∧ ¬ (("merge" : Str) = "remove") ∧ (("merge" : Str) == "keys") = false ∧ ¬ (("merge" : Str) = "keys") ∧ (("merge" : Str) == "values") = false ∧ ¬ (("merge" : Str) = "values") ∧ (("merge" : Str) == "items") = false ∧ ¬ (("merge" : Str) = "items") ∧ (("merge" : Str) == "get") = false ∧ ¬ (("merge" : Str) = "get") ∧ (("merge" : Str) == "copy") = false ∧ ¬ (("merge" : Str) = "copy") ∧ (("merge" : Str) == "clear") = false ∧ ¬ (("merge" : Str) = "clear") ∧ (("merge" : Str) == "length") = false ∧ ¬ (("merge" : Str) = "length") ∧ (("copy" : Str) == "has") = false ∧ ¬ (("copy" : Str) = "has") ∧ (("copy" : Str) == "remove") = false ∧ ¬ (("copy" : Str) = "remove") ∧ (("copy" : Str) == "keys") = false ∧ ¬ (("copy" : Str) = "keys") ∧ (("copy" : Str) == "values") = false ∧ ¬ (("copy" : Str) = "values") ∧ (("copy" : Str) == "items") = false ∧ ¬ (("copy" : Str) = "items") ∧ (("copy" : Str) == "get") = false ∧ ¬ (("copy" : Str) = "get") ∧ (("copy" : Str) == "merge") = false ∧ ¬ (("copy" : Str) = "merge") ∧ (("copy" : Str) == "clear") = false ∧ ¬ (("copy" : Str) = "clear") ∧ (("copy" : Str) == "length") = false ∧ ¬ (("copy" : Str) = "length") ∧ (("clear" : Str) == "has") = false ∧ ¬ (("clear" : Str) = "has") ∧ (("clear" : Str) == "remove") = false ∧ ¬ (("clear" : Str) = "remove") ∧ (("clear" : Str) == "keys") = false ∧ ¬ (("clear" : Str) = "keys") ∧ (("clear" : Str) == "values") = false ∧ ¬ (("clear" : Str) = "values") ∧ (("clear" : Str) == "items") = false ∧ ¬ (("clear" : Str) = "items") ∧ (("clear" : Str) == "get") = false ∧ ¬ (("clear" : Str) = "get") ∧ (("clear" : Str) == "merge") = false ∧ ¬ (("clear" : Str) = "merge") ∧ (("clear" : Str) == "copy") = false ∧ ¬ (("clear" : Str) = "copy") ∧ (("clear" : Str) == "length") = false ∧ ¬ (("clear" : Str) = "length") ∧ (("length" : Str) == "has") = false ∧ ¬ (("length" : Str) = "has") ∧ (("length" : Str) == "remove") = false ∧ ¬ (("length" : Str) = "remove") ∧ (("length" : Str) == "keys") = false ∧ ¬ (("length" : Str) = "keys") ∧ (("length" : Str) == "values") = false ∧ ¬ (("length" : Str) = "values") ∧ (("length" : Str) == "items") = false ∧ ¬ (("length" : Str) = "items") ∧ (("length" : Str) == "get") = false ∧ ¬ (("length" : Str) = "get") ∧ (("length" : Str) == "merge") = false ∧ ¬ (("length" : Str) = "merge") ∧ (("length" : Str) == "copy") = false ∧ ¬ (("length" : Str) = "copy") ∧ (("length" : Str) == "clear") = false ∧ ¬ (("length" : Str) = "clear") := by (repeat' apply And.intro) <;> decide +kernel
set_option maxHeartbeats 4000000 in
theorem ok_listed (A : At K mg "listed" "listed" s_listed ["store", "table", "name"]) (T : Txt K mg c) (M_Table_pairs : HasM P w K mg base CX0 c.Table "pairs" 1 ["self"] (spPairs w c)) (H_make_list : Has P w K mg base (L2.CX P w) "make_list" 4 ["store", "values"] (spMkList w c)) : Has P w K mg base (L2.CX P w) "listed" 5 ["store", "table", "name"] (spListed w c) := by
  have Sc := sc_listed
  refine hasX_of A Sc (fun vs H Q E h => ?_) (fun cdv f A outer s H vs Q E hr h => ?_)
  · unfold spListed at h; split at h; rfl; cases h
  · unfold spListed at h
    split at h
    · rename_i y a name
      obtain ⟨x, S, d, rws, rows, rfl, hS, ⟨dx, ea⟩, ht, hrr, hn, hl, h⟩ := h
      have hlr : rws.length = rows.length := Paired.length hrr
      refine ⟨_, (pss_cons (ps_set (i := 3) Sc.nd rfl (.inl rfl) (fe_meth0 M_Table_pairs T.cl_Table (hr.mono (by walk_at "rm")) pass0 (fe_var 1)))
      (pss_cons (ps_if (pt_cmpR (op_fEq hr.units) (fe_var 2) pe_str (nomark _)) (pss_one (ps_ret (fe_callX H_make_list (hr.mono (by walk_at "rm")) (by rfl) tk_of (pa_cons (fe_var 0) (pa_cons (pe_lc (own := [("pair", 4)]) (by rfl) Sc.nd (pi_list (fe_var 3)) (blkOk_by (own := [("pair", 4)]) (N := ["store", "table", "name", "pairs", "pair"]) (sc := defScope s_listed) (by decide +kernel)) (fun _ _ _ _ _ => (pg_name (i := 4) Sc.nd rfl (.inl rfl))) (fun _ _ _ _ _ => pts_nil) (fun _ _ _ _ _ => (pe_ix (ix_fxK (K := K) rfl) (fe_var 4) pe_int (fun _ _ => rfl)))) pa_nil))))) pss_nil)
      (pss_cons (ps_if (pt_cmpR (op_fEq hr.units) (fe_var 2) pe_str (nomark _)) (pss_one (ps_ret (fe_callX H_make_list (hr.mono (by walk_at "rm")) (by rfl) tk_of (pa_cons (fe_var 0) (pa_cons (pe_lc (own := [("pair", 4)]) (by rfl) Sc.nd (pi_list (fe_var 3)) (blkOk_by (own := [("pair", 4)]) (N := ["store", "table", "name", "pairs", "pair"]) (sc := defScope s_listed) (by decide +kernel)) (fun _ _ _ _ _ => (pg_name (i := 4) Sc.nd rfl (.inl rfl))) (fun _ _ _ _ _ => pts_nil) (fun _ _ _ _ _ => (pe_ix (ix_fxK (K := K) rfl) (fe_var 4) pe_int (fun _ _ => rfl)))) pa_nil))))) pss_nil)
      (pss_one (ps_ret (fe_callX H_make_list (hr.mono (by walk_at "rm")) (by rfl) tk_of (pa_cons (fe_var 0) (pa_cons (pe_lc (own := [("pair", 4)]) (by rfl) Sc.nd (pi_list (fe_var 3)) (blkOk_by (own := [("pair", 4)]) (N := ["store", "table", "name", "pairs", "pair"]) (sc := defScope s_listed) (by decide +kernel)) (fun _ _ _ _ _ => (pg_name (i := 4) Sc.nd rfl (.inl rfl))) (fun _ _ _ _ _ => pts_nil) (fun _ _ _ _ _ => (fe_callX H_make_list (hr.mono (by walk_at "rm")) (by rfl) takes0 (pa_cons (fe_var 0) (pa_cons (fe_lst (pa_cons (pe_ix (ix_fxK (K := K) rfl) (fe_var 4) pe_int (fun _ _ => rfl)) (pa_cons (pe_ix (ix_fxK (K := K) rfl) (fe_var 4) pe_int (fun _ _ => rfl)) pa_nil))) pa_nil))))) pa_nil)))))))), ?_⟩
      walk_at "fx0"
      repeat (first | walk_at "oxs" | simp only [ea])
      refine ⟨d, rws, ⟨dx, ea⟩, ht, by omega, fun p ts H1 np s1 ep hts => ?_⟩
      have hle : ts.length = rws.length := Paired.length hts
      have one : ∀ (g : V × V → V) (rs : List RV) (D : Addr), H1 D = none → VsAt c H1 (rws.map g) rs → ∀ H2, Same H1 H2 → H2 D = some (.lst (rws.map g)) → MadeQ w c H x S [.parts rs] Q → spMkList w c [.ref x.y, .ref D] H2 Q E := fun g rs D nD hv H2 s2 eD hq =>
        ⟨x, S, _, rs, rfl, hS.same (s1.trans s2), eD, hv.hs (.same s2), by rw [List.length_map]; omega, by omega, (hq.same (s1.trans s2)).new⟩
      rcases h with ⟨rfl, h⟩ | ⟨rfl, h⟩ | ⟨rfl, h⟩
      · repeat (first | walk_at "oxs" | simp only [mapne])
        refine lc_ ?_
        walk_at "ox"
        refine ⟨⟨_, .inl (.inl ep)⟩, fun D nD => ?_⟩
        refine lcx_list (xs := ts.map V.ref) (fun i H' => Same H1 H' ∧ H' D = some (.lst ((rws.take i).map (·.1)))) ⟨same_new nD, upd_same⟩ (fun i H' _ ⟨s2, _⟩ => .inl (.inl (s2 _ _ ep))) ?_ ?_
        · rintro i v H2 hx ⟨s2, eD⟩
          rw [List.getElem?_map] at hx
          obtain ⟨t, et, rfl⟩ := Option.map_eq_some_iff.mp hx
          obtain ⟨r, hr1, hr2⟩ := paired_get hts et
          walk_at "ox"
          refine ⟨_, rl_t (s2 _ _ hr2), _, rfl, _, eD, len_line' (by rw [List.length_map, List.length_take]; omega), mk_same s2 nD, ?_⟩
          rw [take_getG hr1, List.map_append]; rfl
        · rintro H2 ⟨s2, eD⟩
          rw [List.length_map, hle, List.take_length] at eD
          exact one _ _ D nD ((vs_map hrr).1.hs (.same s1)) H2 s2 eD h
      · repeat (first | walk_at "oxs" | simp only [mapne])
        refine lc_ ?_
        walk_at "ox"
        refine ⟨⟨_, .inl (.inl ep)⟩, fun D nD => ?_⟩
        refine lcx_list (xs := ts.map V.ref) (fun i H' => Same H1 H' ∧ H' D = some (.lst ((rws.take i).map (·.2)))) ⟨same_new nD, upd_same⟩ (fun i H' _ ⟨s2, _⟩ => .inl (.inl (s2 _ _ ep))) ?_ ?_
        · rintro i v H2 hx ⟨s2, eD⟩
          rw [List.getElem?_map] at hx
          obtain ⟨t, et, rfl⟩ := Option.map_eq_some_iff.mp hx
          obtain ⟨r, hr1, hr2⟩ := paired_get hts et
          walk_at "ox"
          refine ⟨_, rl_t (s2 _ _ hr2), _, rfl, _, eD, len_line' (by rw [List.length_map, List.length_take]; omega), mk_same s2 nD, ?_⟩
          rw [take_getG hr1, List.map_append]; rfl
        · rintro H2 ⟨s2, eD⟩
          rw [List.length_map, hle, List.take_length] at eD
          exact one _ _ D nD ((vs_map hrr).2.hs (.same s1)) H2 s2 eD h
      · repeat (first | walk_at "oxs" | simp only [mapne])
        refine lc_ ?_
        walk_at "ox"
        refine ⟨⟨_, .inl (.inl ep)⟩, fun D nD => ?_⟩
        have st1 := hS.same s1
        have live1 : ∀ q ∈ x.foot, q ≠ D := fun q m z => by
          obtain ⟨o, eo⟩ := st1.live q m
          rw [z, nD] at eo; cases eo
        have mtl : x.tl ∈ x.foot := by simp [SA.foot]
        have soft2 : ∀ {H' : Hp} {x' : SA} {S' : SV} {vs : List V}, Sto w c H' x' S' → x'.tl = x.tl → H' D = some (.lst vs) → ∀ p ∈ [x.tl, D], Soft c H' p := fun st' et' eD' p m => by
          simp only [List.mem_cons, List.not_mem_nil, or_false] at m
          rcases m with rfl | rfl
          · rw [← et']; exact soft_lst st'.et
          · exact soft_lst eD'
        refine lcx_list (xs := ts.map V.ref) (ItmI w c x S rows H1 D) ⟨x, [], (Keep.of (same_new nD)), ?_, fun q m => ⟨.inl m, live1 q m⟩, rfl, rfl, upd_same, .nil⟩ (fun i H' _ ⟨x', vs, k, _⟩ => .inl (.inl (k _ _ ?_ ep))) ?_ ?_
        · show Sto w c _ x (S.adds [])
          rw [show S.adds [] = S from by unfold SV.adds; rw [List.append_nil]]
          exact st1.same (same_new nD)
        · have q1 : p ≠ x.tl := fun z => by
            obtain ⟨o, eo⟩ := hS.live _ mtl
            rw [← z, np] at eo; cases eo
          have q2 : p ≠ D := fun z => by rw [z, nD] at ep; cases ep
          simp [q1, q2]
        · rintro i v H2 hx ⟨x', vs, k2, st2, hf2, hy2, ht2, eD, hv2⟩
          rw [List.getElem?_map] at hx
          obtain ⟨t, et, rfl⟩ := Option.map_eq_some_iff.mp hx
          obtain ⟨r, hr1, hr2⟩ := paired_get hts et
          obtain ⟨rr, hrr1, hrr2⟩ := paired_get hrr hr1
          have htt : t ∉ [x.tl, D] := by
            have q1 : t ≠ x.tl := fun z => by rw [z, st1.et] at hr2; cases hr2
            have q2 : t ≠ D := fun z => by rw [z, nD] at hr2; cases hr2
            simp [q1, q2]
          have et2 := k2 _ _ htt hr2
          have hs12 : HardStay c H1 H2 := fun b o e hd => k2 _ _ (fun m => by
            simp only [List.mem_cons, List.not_mem_nil, or_false] at m
            rcases m with rfl | rfl
            · exact soft_lst st1.et o e hd
            · rw [nD] at e; cases e) e
          walk_at "ox"
          refine ⟨_, rl_t et2, _, rfl, _, rl_t et2, _, rfl, fun l H3 nl s3 el => ?_⟩
          have hlt := (List.getElem?_eq_some_iff.mp hrr1).1
          have hlen : (S.adds ((rows.take i).map fun r => Th.parts [r.1, r.2])).things.length = S.things.length + i := by
            unfold SV.adds
            rw [List.length_append, List.length_map, List.length_take]; omega
          rw [← hy2]
          refine ⟨x', _, _, [rr.1, rr.2], rfl, st2.same s3, el, .cons ((hrr2.1.same s1).hs hs12 |>.same s3) (.cons ((hrr2.2.same s1).hs hs12 |>.same s3) .nil), by simp, by omega, ?_⟩
          intro q qa qb H4 nq nf k4 st4 hq
          rw [hlen] at hq
          have eD4 : H4 D = some (.lst vs) := k4 _ _ (by
            have := (hf2 x'.tl (by simp [SA.foot])).2
            simpa using Ne.symm this) (s3 _ _ eD)
          have s34 : HardStay c H2 H4 := (HardStay.same s3).trans (.keep k4 (by intro p m; rw [List.mem_singleton.mp m]; exact soft_lst (st2.same s3).et))
          have kD : Keep [D] H4 (upd H4 D (.lst (vs ++ [.ref q]))) := Keep.refl.upd (by simp)
          have sD : ∀ p ∈ [D], Soft c H4 p := fun p m => by rw [List.mem_singleton.mp m]; exact soft_lst eD4
          have nfD : ∀ z ∈ footT qa qb, z ≠ D := fun z m e => by
            have := nf z m
            rw [e, s3 _ _ eD] at this; cases this
          have hf4 : ∀ z ∈ (x'.add qa qb).foot, (z ∈ x.foot ∨ H1 z = none) ∧ z ≠ D := fun z m => by
            rw [foot_add] at m
            rcases List.mem_append.mp m with m | m
            · exact hf2 z m
            · refine ⟨?_, nfD z m⟩
              by_cases zt : z = x.tl
              · exact .inl (by rw [zt]; exact mtl)
              · cases ez : H1 z with
                | none => exact .inr rfl
                | some o =>
                  have := s3 _ _ (k2 _ _ (by simp [zt, nfD z m]) ez)
                  rw [nf z m] at this; cases this
          refine ⟨vs, eD4, ?_, x'.add qa qb, vs ++ [.ref q], ?_, ?_, hf4, hy2, ht2, upd_same, ?_⟩
          · rw [show vs.length = _ from Paired.length hv2, List.length_map, List.length_range, sizeLine_eq]
            omega
          · have k4' : Keep [x.tl, D] H3 H4 := k4.mono fun p m => by rw [List.mem_singleton.mp m, ht2]; simp
            exact ((k2.trans (Keep.of s3)).trans k4').trans (kD.mono fun p m => by rw [List.mem_singleton.mp m]; simp)
          · rw [take_getG hrr1, List.map_append]
            show Sto w c _ _ (S.adds (_ ++ [Th.parts [rr.1, rr.2]]))
            rw [← adds_add]
            exact st4.keep kD sD fun z m => by simpa using (hf4 z m).2
          · rw [List.range_succ, List.map_append]
            exact VsAt.hs (vs_app (VsAt.hs hv2 s34) (.cons (show IsVal c H4 (.ref q) (.ob (S.things.length + i)) from ⟨q, rfl, hq⟩) .nil)) (.keep kD sD)
        · rintro H2 ⟨x', vs, k2, st2, hf2, hy2, ht2, eD, hv2⟩
          have hlt : (ts.map V.ref).length = rows.length := by rw [List.length_map]; omega
          rw [hlt] at hv2 st2
          rw [List.take_length] at st2
          have hlv : vs.length = rows.length := by rw [show vs.length = _ from Paired.length hv2, List.length_map, List.length_range]
          have hlen : (S.adds (rows.map fun r => Th.parts [r.1, r.2])).things.length = S.things.length + rows.length := by
            unfold SV.adds
            rw [List.length_append, List.length_map]
          rw [← hy2]
          refine ⟨x', _, vs, _, rfl, st2, eD, hv2, by omega, by omega, ?_⟩
          intro q qa qb H4 nq nf k4 st4 hq
          rw [adds_add] at st4
          have nD0 : H D = none := s1.free nD
          have tl1 := st1.et
          refine h (.ref q) (x'.add qa qb) H4 ?_ st4 ?_ hy2 ht2 ⟨q, rfl, ?_⟩
          · intro b o nb eb
            refine k4 _ _ (by rw [ht2]; exact nb) (k2 _ _ ?_ (s1 _ _ eb))
            have nbt : b ≠ x.tl := by simpa using nb
            have nbD : b ≠ D := fun z => by rw [z, nD0] at eb; cases eb
            simp [nbt, nbD]
          · intro z m
            rw [foot_add] at m
            rcases List.mem_append.mp m with m | m
            · exact (hf2 z m).1.imp id s1.free
            · by_cases zt : z = x.tl
              · exact .inl (by rw [zt]; exact mtl)
              · refine .inr ?_
                cases ez : H z with
                | none => rfl
                | some o =>
                  have zD : z ≠ D := fun e => by rw [e, nD0] at ez; cases ez
                  have := k2 _ _ (by simp [zt, zD]) (s1 _ _ ez)
                  rw [nf z m] at this; cases this
          · rw [hlen] at hq
            rw [show S.things.length + (itemsT S rows).length - 1 = S.things.length + rows.length from by simp [itemsT]]
            exact hq
    · cases h
/-- a method of a map, with its arguments -/
inductive MOp where
  | has (k : RV)
  | remove (k : RV)
  | keys
  | values
  | items
  | get (k v : RV)
  | merge (m : Nat) (others : List (RV × RV))
  | copy
  | clear
  | length
def MOp.name : MOp → Str
  | .has _ => "has"
  | .remove _ => "remove"
  | .keys => "keys"
  | .values => "values"
  | .items => "items"
  | .get _ _ => "get"
  | .merge _ _ => "merge"
  | .copy => "copy"
  | .clear => "clear"
  | .length => "length"
def MOp.args : MOp → List RV
  | .has k => [k]
  | .remove k => [k]
  | .get k v => [k, v]
  | .merge m _ => [.ob m]
  | _ => []
def MOp.ok (S : SV) (n : Nat) : MOp → Prop
  | .has k => keyB k = true
  | .remove k => keyB k = true
  | .get k _ => keyB k = true
  | .merge m others => m ≠ n ∧ S.things[m]? = some (.table others) ∧ others.length ≤ 1000
  | _ => True
def doM (S : SV) (rows : List (RV × RV)) : MOp → MRes
  | .has k => .val (.boo (lkG rows k).isSome) rows
  | .remove k => match lkG rows k with
    | some v => .val v (dropG rows k)
    | none => .err "KeyError" "no such key"
  | .keys => .made [.parts (rows.map (·.1))]
  | .values => .made [.parts (rows.map (·.2))]
  | .items => .made (itemsT S rows)
  | .get k v => .val ((lkG rows k).getD v) rows
  | .merge _ others => if 1000 < rows.length + freshN rows others then .err "SizeError" "too large" else .val .nul (mergeG rows others)
  | .copy => .made [.table rows]
  | .clear => .val .nul []
  | .length => .val (.num rows.length) rows
theorem vm_one {H : Hp} {vs : List V} {r : RV} (h : VsAt c H vs [r]) : ∃ v, vs = [v] ∧ IsVal c H v r := by
  cases h with
  | cons a t => cases t; exact ⟨_, rfl, a⟩
theorem vm_two {H : Hp} {vs : List V} {r r2 : RV} (h : VsAt c H vs [r, r2]) : ∃ v v2, vs = [v, v2] ∧ IsVal c H v r ∧ IsVal c H v2 r2 := by
  cases h with
  | cons a t =>
    obtain ⟨v2, rfl, h2⟩ := vm_one t
    exact ⟨_, _, rfl, a, h2⟩
theorem ResM.made {H : Hp} {x : SA} {S : SV} {n : Nat} {ts : List Th} {Q : VK} {E : XK} (h : ResM w c H x S n (.made ts) Q E) : MadeQ w c H x S ts Q := h
def spCallMap (w : World) (c : Cs) : Sp := fun vs H Q E => match vs with
  | [.ref y, .ref a, .str z, .ref vl] => ∃ x S n d rws rows xs op, y = x.y ∧ Sto w c H x S ∧ x.L[n]? = some (a, some d) ∧ IsTab c H a d ∧ TabR w H d rws ∧ RowsR c H rws rows ∧ S.things[n]? = some (.table rows) ∧ rows.length ≤ 1000 ∧ S.things.length < 90000 ∧ H vl = some (.lst xs) ∧ VsAt c H xs (MOp.args op) ∧ z = MOp.name op ∧ MOp.ok S n op ∧ ResM w c H x S n (doM S rows op) Q E
  | _ => False
set_option maxHeartbeats 4000000 in
theorem ok_callmap (A : At K mg "call_map" "call_map" s_call_map ["store", "table", "name", "values"]) (T : Txt K mg c) (M_Table_has : HasM P w K mg base CX0 c.Table "has" 2 ["self", "key"] (spHas w c)) (M_Table_value_of : HasM P w K mg base CX0 c.Table "value_of" 2 ["self", "key"] (spValOf w c)) (P_Table_many : HasP P w K mg base CX0 c.Table "many" 1 ["self"] (spMany w c)) (H_remove_key : Has P w K mg base (L2.CX P w) "remove_key" 3 ["table", "key"] (spRemK w c)) (H_listed : Has P w K mg base (L2.CX P w) "listed" 5 ["store", "table", "name"] (spListed w c)) (H_merge_into : Has P w K mg base (L2.CX P w) "merge_into" 4 ["table", "other"] (spMergeK w c)) (M_Store_at : HasM P w K mg base CX0 c.Store "at" 1 ["self", "ref"] (spAt w c)) (H_copy_of : Has P w K mg base CX0 "copy_of" 4 ["store", "table"] (spCopyK w c)) (H_clear_all : Has P w K mg base CX0 "clear_all" 3 ["table"] (spClearK w c)) : Has P w K mg base (L2.CX P w) "call_map" 6 ["store", "table", "name", "values"] (spCallMap w c) := by
  have Sc := sc_call_map
  refine hasX_of A Sc (fun vs H Q E h => ?_) (fun cdv f A outer s H vs Q E hr h => ?_)
  · unfold spCallMap at h; split at h; rfl; cases h
  · unfold spCallMap at h
    split at h
    · rename_i y a z vl
      obtain ⟨x, S, n, d, rws, rows, xs, op, rfl, hS, hx, ⟨dx, ea⟩, ht, hrr, et, hn, hl, evl, hxs, hz, hok, h⟩ := h
      have hlr : rws.length = rows.length := Paired.length hrr
      obtain ⟨sdx, es⟩ := hS.st
      refine ⟨_, (pss_cons (ps_if (pt_cmpR (op_fEq hr.units) (fe_var 2) pe_str (nomark _)) (pss_one (ps_ret (fe_meth M_Table_has T.cl_Table (hr.mono (by walk_at "rm")) pass0 (fe_var 1) (pa_cons (pe_ix ix_fx (fe_var 3) pe_int (fun _ _ => rfl)) pa_nil)))) pss_nil)
      (pss_cons (ps_if (pt_cmpR (op_fEq hr.units) (fe_var 2) pe_str (nomark _)) (pss_one (ps_ret (fe_callX H_remove_key (hr.mono (by walk_at "rm")) (by rfl) tk_of (pa_cons (fe_var 1) (pa_cons (pe_ix ix_fx (fe_var 3) pe_int (fun _ _ => rfl)) pa_nil))))) pss_nil)
      (pss_cons (ps_if (pt_cmpR op_fIn (fe_var 2) (fe_tup (pa_cons pe_str (pa_cons pe_str (pa_cons pe_str pa_nil)))) (by with_unfolding_all rfl)) (pss_one (ps_ret (fe_callX H_listed (hr.mono (by walk_at "rm")) (by rfl) tk_of (pa_cons (fe_var 0) (pa_cons (fe_var 1) (pa_cons (fe_var 2) pa_nil)))))) pss_nil)
      (pss_cons (ps_if (pt_cmpR (op_fEq hr.units) (fe_var 2) pe_str (nomark _)) (pss_cons (ps_if (pt_val (fe_meth M_Table_has T.cl_Table (hr.mono (by walk_at "rm")) pass0 (fe_var 1) (pa_cons (pe_ix ix_fx (fe_var 3) pe_int (fun _ _ => rfl)) pa_nil))) (pss_one (ps_ret (fe_meth M_Table_value_of T.cl_Table (hr.mono (by walk_at "rm")) pass0 (fe_var 1) (pa_cons (pe_ix ix_fx (fe_var 3) pe_int (fun _ _ => rfl)) pa_nil)))) pss_nil)
      (pss_one (ps_ret (pe_ix ix_fx (fe_var 3) pe_int (fun _ _ => rfl))))) pss_nil)
      (pss_cons (ps_if (pt_cmpR (op_fEq hr.units) (fe_var 2) pe_str (nomark _)) (pss_cons (ps_expr (fe_callX H_merge_into (hr.mono (by walk_at "rm")) (by rfl) tk_of (pa_cons (fe_var 1) (pa_cons (fe_meth M_Store_at T.cl_Store (hr.mono (by walk_at "rm")) pass0 (fe_var 0) (pa_cons (pe_ix ix_fx (fe_var 3) pe_int (fun _ _ => rfl)) pa_nil)) pa_nil))))
      (pss_one (ps_ret pe_non))) pss_nil)
      (pss_cons (ps_if (pt_cmpR (op_fEq hr.units) (fe_var 2) pe_str (nomark _)) (pss_one (ps_ret (fe_call H_copy_of (hr.mono (by walk_at "rm")) (by rfl) pass0 (pa_cons (fe_var 0) (pa_cons (fe_var 1) pa_nil))))) pss_nil)
      (pss_cons (ps_if (pt_cmpR (op_fEq hr.units) (fe_var 2) pe_str (nomark _)) (pss_cons (ps_expr (fe_call H_clear_all (hr.mono (by walk_at "rm")) (by rfl) pass0 (pa_cons (fe_var 1) pa_nil)))
      (pss_one (ps_ret pe_non))) pss_nil)
      (pss_one (ps_ret (fe_prop P_Table_many T.cl_Table (hr.mono (by walk_at "rm")) pass0 (fe_var 1) rfl)))))))))), ?_⟩
      walk_at "fx0"
      cases op with
      | has k =>
        have hz : z = "has" := hz
        subst hz
        obtain ⟨v, rfl, hv⟩ := vm_one hxs
        have hsc := val_sc hok hv
        obtain ⟨ek, _⟩ := sc_val hsc hv
        repeat (first | walk_at "oxs" | simp only [ea])
        refine ⟨_, rl_l evl, _, rfl, d, rws, ⟨dx, ea⟩, ht, hsc, fun H1 s1 => ?_⟩
        have ls := link_some hsc hrr ht.sck
        rw [← ek] at ls
        rw [ls]
        exact ResM.stay hS et h s1 rfl
      | remove k =>
        have hz : z = "remove" := hz
        subst hz
        obtain ⟨v, rfl, hv⟩ := vm_one hxs
        have hsc := val_sc hok hv
        obtain ⟨ek, _⟩ := sc_val hsc hv
        repeat (first | walk_at "oxs" | simp only [mapne])
        refine ⟨_, rl_l evl, _, rfl, d, rws, ⟨dx, ea⟩, ht, hsc, ?_⟩
        simp only [doM] at h
        rcases link_at hsc hrr ht.sck with ⟨p, q, e1, e2, hpq⟩ | ⟨e1, e2⟩
        · rw [e1]
          rw [ek, e2] at h
          intro H1 k1 ht1
          have hs := keepd_hs (c := c) ht k1
          exact ResM.tab hS hx ⟨dx, ea⟩ ht h k1 ht1 (link_drop hsc (RowsR.hs hrr hs) ht.sck) (hpq.hs hs)
        · rw [e1]
          rw [ek, e2] at h
          exact h
      | keys =>
        have hz : z = "keys" := hz
        subst hz
        repeat (first | walk_at "oxs" | simp only [mapne])
        intro p H1 np s1 ep
        refine ⟨_, rl_t ep, rfl, ?_⟩
        rw [if_pos (by decide)]
        exact ⟨x, S, d, rws, rows, rfl, hS.same s1, ⟨dx, s1 _ _ ea⟩, ht.same s1, RowsR.hs hrr (.same s1), by omega, hl, .inl ⟨rfl, h.made.same s1⟩⟩
      | values =>
        have hz : z = "values" := hz
        subst hz
        repeat (first | walk_at "oxs" | simp only [mapne])
        intro p H1 np s1 ep
        refine ⟨_, rl_t ep, rfl, ?_⟩
        rw [if_pos (by decide)]
        exact ⟨x, S, d, rws, rows, rfl, hS.same s1, ⟨dx, s1 _ _ ea⟩, ht.same s1, RowsR.hs hrr (.same s1), by omega, hl, .inr (.inl ⟨rfl, h.made.same s1⟩)⟩
      | items =>
        have hz : z = "items" := hz
        subst hz
        repeat (first | walk_at "oxs" | simp only [mapne])
        intro p H1 np s1 ep
        refine ⟨_, rl_t ep, rfl, ?_⟩
        rw [if_pos (by decide)]
        exact ⟨x, S, d, rws, rows, rfl, hS.same s1, ⟨dx, s1 _ _ ea⟩, ht.same s1, RowsR.hs hrr (.same s1), by omega, hl, .inr (.inr ⟨rfl, h.made.same s1⟩)⟩
      | get k v0 =>
        have hz : z = "get" := hz
        subst hz
        obtain ⟨v, v2, rfl, hv, hv2⟩ := vm_two hxs
        have hsc := val_sc hok hv
        obtain ⟨ek, _⟩ := sc_val hsc hv
        repeat (first | walk_at "oxs" | simp only [mapne])
        intro p H1 np s1 ep
        refine ⟨_, rl_t ep, rfl, ?_⟩
        rw [if_neg (by decide)]
        have ea1 := s1 _ _ ea
        repeat (first | walk_at "oxs" | simp only [mapne] | simp only [ea1])
        refine ⟨_, rl_l (s1 _ _ evl), _, rfl, d, rws, ⟨dx, ea1⟩, ht.same s1, hsc, fun H2 s2 => ?_⟩
        have s12 := s1.trans s2
        simp only [doM] at h
        walk_at "ox"
        rcases link_at hsc hrr ht.sck with ⟨p, q, e1, e2, hpq⟩ | ⟨e1, e2⟩
        · rw [e1, if_pos (by rfl)]
          rw [ek, e2] at h
          have ea2 := s12 _ _ ea
          repeat (first | walk_at "oxs" | simp only [ea2])
          refine ⟨_, rl_l (s12 _ _ evl), _, rfl, d, rws, p, ⟨dx, ea2⟩, ht.same s12, hsc, e1, fun H3 s3 => ?_⟩
          exact ResM.stay hS et h (s12.trans s3) (hpq.same (s12.trans s3))
        · rw [e1, if_neg (by simp)]
          rw [ek, e2] at h
          refine ⟨_, rl_l (s12 _ _ evl), _, rfl, ?_⟩
          exact ResM.stay hS et h s12 (hv2.same s12)
      | merge m others =>
        have hz : z = "merge" := hz
        subst hz
        obtain ⟨hmn, em, hlo⟩ := hok
        obtain ⟨v, rfl, r, rfl, hr1⟩ := vm_one hxs
        repeat (first | walk_at "oxs" | simp only [mapne])
        intro p H1 np s1 ep
        refine ⟨_, rl_t ep, rfl, ?_⟩
        rw [if_neg (by decide)]
        repeat (first | walk_at "oxs" | simp only [mapne] | simp only [s1 _ _ es])
        refine ⟨_, rl_l (s1 _ _ evl), _, rfl, x, S, m, _, rfl, hS.same s1, hr1.same s1, em, fun a2 b2 hx2 hT2 => ?_⟩
        obtain ⟨d2, ows, rfl, ⟨dx2, ea2⟩, ht2, hoo⟩ := hT2
        have hlo2 : ows.length = others.length := Paired.length hoo
        refine ⟨d, rws, d2, ows, ⟨dx, s1 _ _ ea⟩, ht.same s1, ⟨dx2, ea2⟩, ht2, by omega, by omega, ?_⟩
        have hrr1 := RowsR.hs hrr (.same s1)
        rw [link_fresh hrr1 ht.sck hoo ht2.sck, hlr]
        simp only [doM] at h
        split
        · rename_i q
          rw [if_pos q] at h
          exact OutS.same h s1
        · rename_i q
          rw [if_neg q] at h
          intro H2 k2 ht3
          have k12 := (Keep.of s1).trans k2
          have hs2 := keepd_hs (c := c) (ht.same s1) k2
          repeat (walk_at "oxs")
          exact ResM.tab hS hx ⟨dx, ea⟩ ht h k12 ht3 (link_merge (RowsR.hs hoo hs2) ht2.sck (RowsR.hs hrr1 hs2) ht.sck) rfl
      | copy =>
        have hz : z = "copy" := hz
        subst hz
        repeat (first | walk_at "oxs" | simp only [mapne])
        intro p H1 np s1 ep
        refine ⟨_, rl_t ep, rfl, ?_⟩
        rw [if_neg (by decide)]
        repeat (first | walk_at "oxs" | simp only [mapne])
        exact ⟨x, S, d, rws, rows, rfl, hS.same s1, ⟨dx, s1 _ _ ea⟩, ht.same s1, RowsR.hs hrr (.same s1), by omega, by omega, (h.made.same s1).new⟩
      | clear =>
        have hz : z = "clear" := hz
        subst hz
        repeat (first | walk_at "oxs" | simp only [mapne])
        intro p H1 np s1 ep
        refine ⟨_, rl_t ep, rfl, ?_⟩
        rw [if_neg (by decide)]
        repeat (first | walk_at "oxs" | simp only [mapne])
        refine ⟨d, rws, ⟨dx, s1 _ _ ea⟩, ht.same s1, by omega, fun H2 k2 ht2 => ?_⟩
        repeat (walk_at "oxs")
        exact ResM.tab hS hx ⟨dx, ea⟩ ht h ((Keep.of s1).trans k2) ht2 .nil rfl
      | length =>
        have hz : z = "length" := hz
        subst hz
        repeat (first | walk_at "oxs" | simp only [mapne])
        intro p H1 np s1 ep
        refine ⟨_, rl_t ep, rfl, ?_⟩
        rw [if_neg (by decide)]
        repeat (first | walk_at "oxs" | simp only [mapne] | simp only [s1 _ _ ea])
        refine ⟨d, rws, ⟨dx, s1 _ _ ea⟩, ht.same s1, ?_⟩
        rw [hlr]
        exact ResM.stay hS et h s1 rfl
    · cases h
def MK : List (Str × Option (List Str)) := [("has", some ["key"]), ("remove", some ["key"]), ("keys", some []), ("values", some []), ("items", some []), ("get", some ["key", "any"]), ("merge", some ["map"]), ("copy", some []), ("clear", some []), ("length", some [])]
def kindsV (ks : List (Str × Option (List Str))) : List (Str × Option (List V)) := ks.map fun p => (p.1, p.2.map fun q => q.map V.str)
theorem kindsV_lookup {z : Str} {o : Option (List Str)} : ∀ {ks : List (Str × Option (List Str))}, ks.lookup z = some o → (kindsV ks).lookup z = some (o.map fun q => q.map V.str)
  | [], h => by cases h
  | (y, p) :: ks, h => by
    show List.lookup z ((y, p.map fun q => q.map V.str) :: kindsV ks) = _
    rw [List.lookup_cons] at h ⊢
    split at h
    · cases h; rfl
    · exact kindsV_lookup h
/-- what a call of a method of a map comes to -/
inductive MethM (S : SV) (n : Nat) (rows : List (RV × RV)) (z : Str) (vr : List RV) : MRes → Prop
  | kind (ks : List Str) : MK.lookup z = some (some ks) → ks.length < 10 → vr.length = ks.length → fitsK S vr ks = false → MethM S n rows z vr (.err "KindError" "wrong argument")
  | ok (op : MOp) (ks : List Str) : MK.lookup z = some (some ks) → ks.length < 10 → vr.length = ks.length → fitsK S vr ks = true → z = MOp.name op → vr = MOp.args op → MOp.ok S n op → MethM S n rows z vr (doM S rows op)
def spMethM (K : PySem.W.Frag) (w : World) (c : Cs) : Sp := fun vs H Q E => match vs with
  | [.ref y, v, .str z, .ref vl] => ∃ x S n rows xs vr R, y = x.y ∧ Sto w c H x S ∧ IsVal c H v (.ob n) ∧ S.things[n]? = some (.table rows) ∧ rows.length ≤ 1000 ∧ S.things.length < 90000 ∧ H vl = some (.lst xs) ∧ VsAt c H xs vr ∧ (∀ r ∈ vr, WfR S r) ∧ vr.length < 10 ∧ MethM S n rows z vr R ∧ ResM w c H x S n R Q E
  | _ => False
theorem ok_methM (A : At K mg "call_method" "call_method" s_call_method ["store", "x", "name", "values"]) (T : Txt K mg c) (TD : TxD w K mg) (H_thing_of : Has P w K mg base CX0 "thing_of" 2 ["store", "value"] (spThing w c)) (H_kind_of : Has P w K mg base CX0 "kind_of" 3 ["store", "value"] (spKind w c)) (H_check_count : Has P w K mg base (L2.CX P w) "check_count" 3 ["values", "wanted"] (spCount c)) (H_check_kinds : Has P w K mg base (L2.CX P w) "check_kinds" 5 ["store", "values", "kinds"] (spKinds K w c)) (H_call_map : Has P w K mg base (L2.CX P w) "call_map" 6 ["store", "table", "name", "values"] (spCallMap w c)) (E_ScriptError : HasE P w K mg base c.ScriptError "ScriptError" 2 (two "kind" "message")) : Has P w K mg base (L2.CX P w) "call_method" 7 ["store", "x", "name", "values"] (spMethM K w c) := by
  have Sc := sc_call_method
  refine hasX_of A Sc (fun vs H Q E h => ?_) (fun cdv f A outer s H vs Q E hr h => ?_)
  · unfold spMethM at h; split at h; rfl; cases h
  · unfold spMethM at h
    split at h
    · rename_i y v z vl
      obtain ⟨x, S, n, rows, xs, vr, R, rfl, hS, hv, et, hn, hl, evl, hxs, hwf, hvr, hR, h⟩ := h
      have hw : WfR S (.ob n) := fun m e => by cases e; exact (List.getElem?_eq_some_iff.mp et).1
      have hv0 := hv
      refine ⟨_, (pss_cons (ps_set (i := 4) Sc.nd rfl (.inl rfl) (fe_call H_thing_of (hr.mono (by walk_at "rm")) (by rfl) pass0 (pa_cons (fe_var 0) (pa_cons (fe_var 1) pa_nil))))
      (pss_cons (ps_set (i := 5) Sc.nd rfl (.inl rfl) pe_non)
      (pss_cons (ps_if (PW.pt (pw_and (pt_val (pe_callB (call_fIsiA T.kit) (by rfl) T.no_isinstance (by decide +kernel) (pa_cons (fe_var 1) (pa_cons (fe_ty (n := "str") (by rfl) T.no_str (by decide +kernel)) pa_nil)))) (pw_and1 (pt_cmpR op_fInDT (fe_var 2) (fe_gdictT (by rfl) TD.d_TEXT_KINDS) (by with_unfolding_all rfl))))) (pss_one (ps_set (i := 5) Sc.nd rfl (.inl rfl) (pe_ix ix_fxDT (fe_gdictT (by rfl) TD.d_TEXT_KINDS) (fe_var 2) (fun _ _ => rfl)))) (pss_one (ps_if (PW.pt (pw_and (pt_val (pe_callB (call_fIsiO T.kit) (by rfl) T.no_isinstance (by decide +kernel) (pa_cons (fe_var 4) (pa_cons (pe_glob (v := .ref c.Parts) (by rfl) T.mg_Parts rfl) pa_nil)))) (pw_and1 (pt_cmpR op_fInDT (fe_var 2) (fe_gdictT (by rfl) TD.d_LIST_KINDS) (by with_unfolding_all rfl))))) (pss_one (ps_set (i := 5) Sc.nd rfl (.inl rfl) (pe_ix ix_fxDT (fe_gdictT (by rfl) TD.d_LIST_KINDS) (fe_var 2) (fun _ _ => rfl)))) (pss_one (ps_if (PW.pt (pw_and (pt_val (pe_callB (call_fIsiO T.kit) (by rfl) T.no_isinstance (by decide +kernel) (pa_cons (fe_var 4) (pa_cons (pe_glob (v := .ref c.Table) (by rfl) T.mg_Table rfl) pa_nil)))) (pw_and1 (pt_cmpR op_fInDT (fe_var 2) (fe_gdictT (by rfl) TD.d_MAP_KINDS) (by with_unfolding_all rfl))))) (pss_one (ps_set (i := 5) Sc.nd rfl (.inl rfl) (pe_ix ix_fxDT (fe_gdictT (by rfl) TD.d_MAP_KINDS) (fe_var 2) (fun _ _ => rfl)))) pss_nil)))))
      (pss_cons (ps_if (pt_cmpR op_fIsN (fe_var 5) pe_non (nomark _)) (pss_one (fs_raise rfl tk_of E_ScriptError (by decide) (hr.mono (by walk_at "rm")) (by rfl) (pa_cons pe_str (pa_cons (fe_joined (pf_cons (fe_fmt (fe_call H_kind_of (hr.mono (by walk_at "rm")) (by rfl) pass0 (pa_cons (fe_var 0) (pa_cons (fe_var 1) pa_nil)))) (pf_cons pe_str (pf_cons (fe_fmt (fe_var 2)) PF_nil)))) pa_nil)))) pss_nil)
      (pss_cons (ps_expr (fe_callX H_check_count (hr.mono (by walk_at "rm")) (by rfl) tk_of (pa_cons (fe_var 3) (pa_cons (pe_callB call_fLen (by rfl) T.no_len (by decide +kernel) (pa_cons (fe_var 5) pa_nil)) pa_nil))))
      (pss_cons (ps_expr (fe_callX H_check_kinds (hr.mono (by walk_at "rm")) (by rfl) tk_of (pa_cons (fe_var 0) (pa_cons (fe_var 3) (pa_cons (fe_var 5) pa_nil)))))
      (pss_cons (ps_if (pt_val (pe_callB (call_fIsiA T.kit) (by rfl) T.no_isinstance (by decide +kernel) (pa_cons (fe_var 1) (pa_cons (fe_ty (n := "str") (by rfl) T.no_str (by decide +kernel)) pa_nil)))) (pss_one (ps_ret pe_dead)) pss_nil)
      (pss_cons (ps_if (pt_val (pe_callB (call_fIsiO T.kit) (by rfl) T.no_isinstance (by decide +kernel) (pa_cons (fe_var 4) (pa_cons (pe_glob (v := .ref c.Parts) (by rfl) T.mg_Parts rfl) pa_nil)))) (pss_one (ps_ret pe_dead)) pss_nil)
      (pss_one (ps_ret (fe_callX H_call_map (hr.mono (by walk_at "rm")) (by rfl) tk_of (pa_cons (fe_var 0) (pa_cons (fe_var 4) (pa_cons (fe_var 2) (pa_cons (fe_var 3) pa_nil))))))))))))))), ?_⟩
      walk_at "fx0"
      walk_at "ox"
      refine ⟨x, S, .ob n, rfl, hS, hv, hw, fun tv h1 h2 _ => ?_⟩
      obtain ⟨a, b, rfl, ea, hT⟩ := h2 n _ rfl et
      obtain ⟨va, rfl, vdx, ev⟩ := hv
      obtain ⟨d, rws, rfl, ⟨dx, eh⟩, ht, hrr⟩ := id hT
      walk_at "ox"
      refine cut_ fun N hN => ?_
      repeat (first | walk_at "oxs" | simp only [ev] | simp only [eh])
      intro d1 D1
      obtain ⟨ks, hk, hk10, hlen⟩ : ∃ ks, MK.lookup z = some (some ks) ∧ ks.length < 10 ∧ vr.length = ks.length := by
        cases hR with
        | kind ks a b c _ => exact ⟨ks, a, b, c⟩
        | ok op ks a b c _ _ _ _ => exact ⟨ks, a, b, c⟩
      have hk2 := kindsV_lookup hk
      refine ⟨_, D1, _, hk2, ?_⟩
      rw [if_pos (by rfl)]
      intro d2 D2
      refine ⟨_, D2, _, hk2, fun kt hkt => ?_⟩
      refine hN _ _ ?_
      repeat (walk_at "oxs")
      have lx : xs.length = vr.length := Paired.length hxs
      refine ⟨_, .inr (hkt H), ?_⟩
      refine ⟨xs, ks.length, evl, by omega, by rw [List.length_map], hk10, ?_⟩
      rw [lx, if_pos hlen]
      refine ⟨x, S, xs, vr, ks, rfl, hS, evl, hxs, hwf, by omega, hkt, hlen.symm, ?_⟩
      cases hR with
      | kind ks' a1 b1 c1 hf =>
        rw [hk] at a1
        cases a1
        rw [if_neg (by rw [hf]; simp)]
        exact h
      | ok op ks' a1 b1 c1 hf hz ha hok =>
        rw [hk] at a1
        cases a1
        rw [if_pos hf]
        intro H1 s1
        have ev1 := s1 _ _ ev
        have eh1 := s1 _ _ eh
        repeat (first | walk_at "oxs" | simp only [ev1] | simp only [eh1])
        rw [ha] at hxs
        exact ⟨x, S, n, d, rws, rows, xs, op, rfl, hS.same s1, ea, ⟨dx, eh1⟩, ht.same s1, RowsR.hs hrr (.same s1), et, hn, hl, s1 _ _ evl, hxs.hs (.same s1), hz, hok, h.same s1⟩
    · cases h
end

section
variable {P : Program} {w : World} {K : PySem.W.Frag} {mg : Str → Option Value} {base : Heap} {c : Cs}
/-! ### the law's own functions -/
/-- a new tuple -/
def newT (xs : List V) (H : Hp) (Q : VK) : Prop := ∀ p H1, H p = none → Same H H1 → H1 p = some (.tup xs) → Q (.ref p) H1
theorem newT.same {xs : List V} {H H1 : Hp} {Q : VK} (h : newT xs H Q) (s : Same H H1) : newT xs H1 Q := fun p H2 np s2 e => h p H2 (s.free np) (s.trans s2) e
def ECatch (c : Cs) (Q : VK) : XK := fun cls d H2 => ∃ dd k m, cls = .ref c.ScriptError ∧ d = some dd ∧ H2 dd = some (.xd [("message", .str m), ("kind", .str k)]) ∧ newT [.str k, .str m] H2 Q
theorem outS_catch {H : Hp} {k m : Str} {Q : VK} (h : newT [.str k, .str m] H Q) : OutS c H k m (ECatch c Q) := fun d H2 nd s e => ⟨d, k, m, rfl, rfl, e, h.same s⟩
theorem Out.mono {C : Addr} {H : Hp} {fs : List (Str × V)} {E E' : XK} (h : Out C H fs E) (we : ∀ cls d H2, E cls d H2 → E' cls d H2) : Out C H fs E' := fun d H2 nd s e => we _ _ _ (h d H2 nd s e)

def spEqRef (c : Cs) : Sp := fun vs H Q _ => match vs with
  | [.ref a, .ref b] => ∃ n m, IsRef c H a n ∧ IsRef c H b m ∧ Q (.bl (decide (n = m))) H
  | _ => False
theorem ok_eqRef (A : AtM K c.Ref "__eq__" "Ref.__eq__" s_Ref___eq__ ["self", "other"]) (T : Txt K mg c) : HasM P w K mg base CX0 c.Ref "__eq__" 1 ["self", "other"] (spEqRef c) := by
  have Sc := sc_Ref___eq__
  refine hasM_of A Sc (fun vs H Q E h => ?_) (fun cdv f A outer s H vs Q E hr h => ?_)
  · unfold spEqRef at h; split at h; rfl; cases h
  · unfold spEqRef at h
    split at h
    · obtain ⟨n, m, ⟨dx, e1⟩, ⟨dy, e2⟩, k⟩ := h
      refine ⟨_, (pss_one (ps_ret (pe_and (pe_callB (call_fIsiO T.kit) (by rfl) T.no_isinstance (by decide +kernel) (pa_cons (fe_var 1) (pa_cons (pe_glob (v := .ref c.Ref) (by rfl) T.mg_Ref rfl) pa_nil))) (pe_one (pe_cmpR (op_fEq hr.units) (fe_fld (fe_var 0) T.pl_number rfl) (fe_fld (fe_var 1) T.pl_number rfl) (nomark _)))))), ?_⟩
      walk_at "fx0"
      repeat (first | walk_at "oxs" | simp only [e2] | simp only [e1])
      exact k
    · cases h
def spEqBt : Sp := fun _ _ _ _ => False
theorem ok_eqBt (A : AtM K c.Builtin "__eq__" "Builtin.__eq__" s_Builtin___eq__ ["self", "other"]) (T : Txt K mg c) : HasM P w K mg base CX0 c.Builtin "__eq__" 1 ["self", "other"] spEqBt := by
  have Sc := sc_Builtin___eq__
  exact hasM_of A Sc (fun vs H Q E h => h.elim) (fun cdv f A outer s H vs Q E hr h => h.elim)
def NoB (r : RV) : Prop := ∀ z, r ≠ .bt z
def spLSame (c : Cs) : Sp := fun vs H Q _ => match vs with
  | [x, y] => ∃ r t, IsVal c H x r ∧ IsVal c H y t ∧ NoB r ∧ NoB t ∧ Q (.bl (decide (r = t))) H
  | _ => False
set_option maxHeartbeats 4000000 in
theorem ok_lsame (A : At K mg "_law_same" "_law_same" s_law_same ["x", "y"]) (T : Txt K mg c) : Has P w K mg base CX0 "_law_same" 1 ["x", "y"] (spLSame c) := by
  have Sc := sc_law_same
  refine has_of A Sc (fun vs H Q E h => ?_) (fun cdv f A outer s H vs Q E hr h => ?_)
  · unfold spLSame at h; split at h; rfl; cases h
  · unfold spLSame at h
    split at h
    · rename_i x y
      obtain ⟨r, t, hx, hy, nb1, nb2, h⟩ := h
      refine ⟨_, (pss_cons (ps_if (PW.pt (pw_or (pt_val (pe_callB (call_fIsiA T.kit) (by rfl) T.no_isinstance (by decide +kernel) (pa_cons (fe_var 0) (pa_cons (fe_ty (n := "bool") (by rfl) T.no_bool (by decide +kernel)) pa_nil)))) (pw_or1 (pt_val (pe_callB (call_fIsiA T.kit) (by rfl) T.no_isinstance (by decide +kernel) (pa_cons (fe_var 1) (pa_cons (fe_ty (n := "bool") (by rfl) T.no_bool (by decide +kernel)) pa_nil))))))) (pss_one (ps_ret (pe_and (pe_callB (call_fIsiA T.kit) (by rfl) T.no_isinstance (by decide +kernel) (pa_cons (fe_var 0) (pa_cons (fe_ty (n := "bool") (by rfl) T.no_bool (by decide +kernel)) pa_nil))) (pe_and (pe_callB (call_fIsiA T.kit) (by rfl) T.no_isinstance (by decide +kernel) (pa_cons (fe_var 1) (pa_cons (fe_ty (n := "bool") (by rfl) T.no_bool (by decide +kernel)) pa_nil))) (pe_one (pe_cmpR (op_fEq hr.units) (fe_var 0) (fe_var 1) (nomark _))))))) pss_nil)
      (pss_cons (ps_if (PW.pt (pw_or (pt_val (pe_callB (call_fIsiO T.kit) (by rfl) T.no_isinstance (by decide +kernel) (pa_cons (fe_var 0) (pa_cons (pe_glob (v := .ref c.Ref) (by rfl) T.mg_Ref rfl) pa_nil)))) (pw_or1 (pt_val (pe_callB (call_fIsiO T.kit) (by rfl) T.no_isinstance (by decide +kernel) (pa_cons (fe_var 1) (pa_cons (pe_glob (v := .ref c.Ref) (by rfl) T.mg_Ref rfl) pa_nil))))))) (pss_one (ps_ret (pe_and (pe_callB (call_fIsiO T.kit) (by rfl) T.no_isinstance (by decide +kernel) (pa_cons (fe_var 0) (pa_cons (pe_glob (v := .ref c.Ref) (by rfl) T.mg_Ref rfl) pa_nil))) (pe_and (pe_callB (call_fIsiO T.kit) (by rfl) T.no_isinstance (by decide +kernel) (pa_cons (fe_var 1) (pa_cons (pe_glob (v := .ref c.Ref) (by rfl) T.mg_Ref rfl) pa_nil))) (pe_one (pe_cmpR (op_fEq hr.units) (fe_fld (fe_var 0) T.pl_number rfl) (fe_fld (fe_var 1) T.pl_number rfl) (nomark _))))))) pss_nil)
      (pss_one (ps_ret (pe_cmpR (op_fEq hr.units) (fe_var 0) (fe_var 1) (nomark _)))))), ?_⟩
      walk_at "fx0"
      cases r <;> cases t <;> first
        | exact absurd rfl (nb1 _)
        | exact absurd rfl (nb2 _)
        | (obtain rfl := (show x = _ from hx)
           obtain rfl := (show y = _ from hy)
           repeat (walk_at "oxs")
           first
             | exact h
             | simpa using h)
        | (obtain ⟨a, rfl, dx, e1⟩ := hx
           obtain rfl := (show y = _ from hy)
           repeat (first | walk_at "oxs" | simp only [e1])
           first
             | exact h
             | simpa using h)
        | (obtain rfl := (show x = _ from hx)
           obtain ⟨a, rfl, dx, e1⟩ := hy
           repeat (first | walk_at "oxs" | simp only [e1])
           first
             | exact h
             | simpa using h)
        | (obtain ⟨a, rfl, dx, e1⟩ := hx
           obtain ⟨b, rfl, dy, e2⟩ := hy
           repeat (first | walk_at "oxs" | simp only [e1] | simp only [e2])
           first
             | exact h
             | exact Eq.mp (congrArg (fun b => Q (V.bl b) _) (decide_eq_decide.mpr ⟨fun z => by cases z; rfl, fun z => by cases Int.ofNat.inj z; rfl⟩)) h
             | simpa using h)
    · cases h

theorem ResM.mono {H : Hp} {x : SA} {S : SV} {n : Nat} {R : MRes} {Q Q' : VK} {E E' : XK} (h : ResM w c H x S n R Q E) (wq : ∀ v H1, Q v H1 → Q' v H1) (we : ∀ cls d H2, E cls d H2 → E' cls d H2) : ResM w c H x S n R Q' E' := by
  cases R with
  | err k m => exact Out.mono h we
  | val r rs' => exact fun v d H1 k hd so st hr => wq _ _ (h v d H1 k hd so st hr)
  | made ts => exact fun v x' H1 k st hf hy ht hr => wq _ _ (h v x' H1 k st hf hy ht hr)
theorem keyB_nb {r : RV} (h : keyB r = true) : NoB r := fun z e => by subst e; cases h
def keysL : List V := [.non, .bl true, .bl false, .int 0, .int 1, .str "", .str "a", .str "1", .str "true"]
def spLKey (K : PySem.W.Frag) (c : Cs) : Sp := fun vs H Q _ => match vs with
  | [.ref s] => ∃ H0 sc ns, Dr K H0 s sc ns H ∧ ∀ H1 v, Keep [s] H H1 → Dr K H0 s sc ns H1 → scV v = true → Q v H1
  | _ => False
theorem ok_lkey (A : At K mg "_law_key" "_law_key" s_law_key ["state"]) (T : Txt K mg c) (H_law_pick : Has P w K mg base CX0 "_law_pick" 3 ["state", "row"] (spPick2 K)) : Has P w K mg base CX0 "_law_key" 4 ["state"] (spLKey K c) := by
  have Sc := sc_law_key
  refine has_of A Sc (fun vs H Q E h => ?_) (fun cdv f A outer s H vs Q E hr h => ?_)
  · unfold spLKey at h; split at h; rfl; cases h
  · unfold spLKey at h
    split at h
    · rename_i st
      obtain ⟨H0, sc, ns, D, h⟩ := h
      refine ⟨_, (pss_one (ps_ret (fe_call H_law_pick (hr.mono (by walk_at "rm")) (by rfl) pass0 (pa_cons (fe_var 0) (pa_cons (fe_tup (pa_cons pe_non (pa_cons pe_bl (pa_cons pe_bl (pa_cons pe_int (pa_cons pe_int (pa_cons pe_str (pa_cons pe_str (pa_cons pe_str (pa_cons pe_str pa_nil)))))))))) pa_nil))))), ?_⟩
      walk_at "fx0"
      repeat (walk_at "oxs")
      intro p H3 np s3 ep
      have D3 := D.same s3
      have hps : p ≠ st := fun z => by
        obtain ⟨a, k, e, _⟩ := D.st
        rw [z, e] at np; cases np
      refine ⟨H0, sc, ns, _, D3, fun H4 k4 => rl_t (k4 _ _ (by simpa using hps) ep), by simp, by simp, fun H4 v k4 D4 hv => ?_⟩
      refine h H4 v ((Keep.of s3).trans k4) D4 ?_
      simp only [List.mem_cons, List.not_mem_nil, or_false] at hv
      rcases hv with rfl | rfl | rfl | rfl | rfl | rfl | rfl | rfl | rfl <;> rfl
    · cases h
/-- the law's own entries, as tuples -/
abbrev RowsO (c : Cs) (H : Hp) : List Addr → List (RV × RV) → Prop := Paired (fun t r => ∃ k v, H t = some (.tup [k, v]) ∧ IsVal c H k r.1 ∧ IsVal c H v r.2)
theorem RowsO.hs {H H' : Hp} {ts : List Addr} {rows : List (RV × RV)} (h : RowsO c H ts rows) (s : HardStay c H H') : RowsO c H' ts rows := Paired.mapP h fun _ _ ⟨k, v, e, h1, h2⟩ => ⟨k, v, s _ _ e (Hard.t _), h1.hs s, h2.hs s⟩
theorem RowsO.of {H : Hp} {ts : List Addr} {rws : List (V × V)} {rows : List (RV × RV)} (h : RowsT H ts rws) (g : RowsR c H rws rows) : RowsO c H ts rows := by
  induction h generalizing rows with
  | nil => cases g; exact .nil
  | cons a t ih =>
    cases g with
    | cons b u => exact .cons ⟨_, _, a, b.1, b.2⟩ (ih u)
structure RowsN (rows : List (RV × RV)) : Prop where
  le : rows.length ≤ 1000
  nd : (rows.map (·.1)).Nodup
  kb : ∀ r ∈ rows, keyB r.1 = true
  nb : ∀ r ∈ rows, NoB r.2
theorem RowsN.put {rows : List (RV × RV)} {k v : RV} (h : RowsN rows) (hk : keyB k = true) (hv : NoB v) (hl : (putG rows k v).length ≤ 1000) : RowsN (putG rows k v) := by
  refine ⟨hl, putG_nd h.nd, fun r m => ?_, fun r m => ?_⟩
  · unfold putG at m
    split at m
    · obtain ⟨q, hq, rfl⟩ := List.mem_map.mp m
      split
      · exact hk
      · exact h.kb q hq
    · rcases List.mem_append.mp m with m | m
      · exact h.kb r m
      · rw [List.mem_singleton.mp m]; exact hk
  · unfold putG at m
    split at m
    · obtain ⟨q, hq, rfl⟩ := List.mem_map.mp m
      split
      · exact hv
      · exact h.nb q hq
    · rcases List.mem_append.mp m with m | m
      · exact h.nb r m
      · rw [List.mem_singleton.mp m]; exact hv
theorem RowsN.drop {rows : List (RV × RV)} {k : RV} (h : RowsN rows) : RowsN (dropG rows k) :=
  ⟨Nat.le_trans (List.length_filter_le _ _) h.le, dropG_nd h.nd, fun r m => h.kb r (List.mem_filter.mp m).1, fun r m => h.nb r (List.mem_filter.mp m).1⟩
def idxR (rows : List (RV × RV)) (k : RV) : Int := match rows.findIdx? (fun r => decide (r.1 = k)) with
  | some i => (i : Nat)
  | none => -1
def spLAt (c : Cs) : Sp := fun vs H Q _ => match vs with
  | [.ref R, k] => ∃ ts rows r, H R = some (.lst (ts.map V.ref)) ∧ RowsO c H ts rows ∧ IsVal c H k r ∧ keyB r = true ∧ (∀ q ∈ rows, keyB q.1 = true) ∧ rows.length ≤ 1000 ∧ Q (.int (idxR rows r)) H
  | _ => False
theorem findIdx_at {rows : List (RV × RV)} {k : RV} {i : Nat} {r : RV × RV} (hr : rows[i]? = some r) (he : r.1 = k) (hn : ∀ (j : Nat) (q : RV × RV), j < i → rows[j]? = some q → q.1 ≠ k) : rows.findIdx? (fun r => decide (r.1 = k)) = some i := by
  obtain ⟨hi, e⟩ := List.getElem?_eq_some_iff.mp hr
  rw [List.findIdx?_eq_some_iff_getElem]
  refine ⟨hi, by rw [e]; exact decide_eq_true he, fun j hj => ?_⟩
  simpa using hn j _ hj (List.getElem?_eq_getElem (by omega))
theorem findIdx_no {rows : List (RV × RV)} {k : RV} (hn : ∀ (j : Nat) (q : RV × RV), rows[j]? = some q → q.1 ≠ k) : rows.findIdx? (fun r => decide (r.1 = k)) = none := by
  rw [List.findIdx?_eq_none_iff]
  intro q m
  obtain ⟨j, hj, e⟩ := List.getElem_of_mem m
  have := hn j q (by rw [List.getElem?_eq_getElem hj, e])
  simpa using this
theorem ok_lat (A : At K mg "_law_at" "_law_at" s_law_at ["rows", "key"]) (T : Txt K mg c) (H_law_same : Has P w K mg base CX0 "_law_same" 1 ["x", "y"] (spLSame c)) : Has P w K mg base CX0 "_law_at" 2 ["rows", "key"] (spLAt c) := by
  have Sc := sc_law_at
  refine has_of A Sc (fun vs H Q E h => ?_) (fun cdv f A outer s H vs Q E hr h => ?_)
  · unfold spLAt at h; split at h; rfl; cases h
  · unfold spLAt at h
    split at h
    · rename_i R kv
      obtain ⟨ts, rows, r, el, hts, hk, hkb, hkr, hn, h⟩ := h
      have hle : ts.length = rows.length := Paired.length hts
      refine ⟨_, (pss_cons (ps_for PassesOwn.never rfl (pi_range1 (by rfl) T.no_range (pa_cons (pe_callB call_fLen (by rfl) T.no_len (by decide +kernel) (pa_cons (fe_var 0) pa_nil)) pa_nil)) (pg_name (i := 2) Sc.nd rfl (.inl rfl)) (pss_one (ps_if (pt_val (fe_call H_law_same (hr.mono (by walk_at "rm")) (by rfl) pass0 (pa_cons (pe_ix ix_fx (pe_ix ix_fx (fe_var 0) (fe_var 2) (fun _ _ => rfl)) pe_int (fun _ _ => rfl)) (pa_cons (fe_var 1) pa_nil)))) (pss_one (ps_ret (fe_var 2))) pss_nil)))
      (pss_one (ps_ret (pe_un un_fNeg pe_int)))), ?_⟩
      walk_at "fx0"
      simp only [tSeq]
      refine cut_ fun N hN => for_ ?_
      walk_at "ox"
      refine ⟨_, rl_l el, ?_⟩
      rw [List.length_map, hle]
      have hb : (-2 ^ 62 : Int) ≤ rows.length ∧ (rows.length : Int) < 2 ^ 62 := by omega
      refine ⟨hb.1, hb.2, loop_range (fun i σ H' => H' = H ∧ (∀ j q, j < i → rows[j]? = some q → q.1 ≠ r) ∧ ∃ v, σ = [some (.ref R), some kv, v]) ⟨rfl, (fun j q hj => by omega), none, rfl⟩ ?_ ?_⟩
      · rintro i σ H1 hi ⟨rfl, hno, v, rfl⟩
        have ex : (ts.map V.ref)[i]? = some (.ref (ts[i]'(by omega))) := by rw [List.getElem?_map, List.getElem?_eq_getElem (by omega)]; rfl
        obtain ⟨q, eq, k1, v1, et, h1, h2⟩ := paired_get hts (List.getElem?_eq_getElem (show i < ts.length by omega))
        walk_at "ox"
        refine ⟨_, rl_l el, _, atI_nat ex, ?_⟩
        walk_at "ox"
        refine ⟨_, rl_t et, _, rfl, q.1, r, h1, hk, keyB_nb (hkr q (List.mem_of_getElem? eq)), keyB_nb hkb, ?_⟩
        walk_at "ox"
        split
        · rename_i e
          have := findIdx_at eq e hno
          unfold idxR at h
          rw [this] at h
          exact h
        · rename_i e
          refine ⟨fun j q' hj hq => ?_, _, rfl⟩
          by_cases z : j = i
          · subst z
            rw [eq] at hq
            cases hq
            exact e
          · exact hno j q' (by omega) hq
      · rintro σ H1 ⟨rfl, hno, v, rfl⟩
        refine hN _ _ ?_
        walk_at "ox"
        have := findIdx_no (rows := rows) (k := r) fun j q hq => hno j q (List.getElem?_eq_some_iff.mp hq).1 hq
        unfold idxR at h
        rw [this] at h
        exact h
    · cases h
def spLPut (c : Cs) : Sp := fun vs H Q _ => match vs with
  | [.ref R, k, v] => ∃ ts rows r q, H R = some (.lst (ts.map V.ref)) ∧ RowsO c H ts rows ∧ IsVal c H k r ∧ IsVal c H v q ∧ keyB r = true ∧ (∀ q ∈ rows, keyB q.1 = true) ∧ (rows.map (·.1)).Nodup ∧ rows.length ≤ 1000 ∧ ∀ H1 ts', Keep [R] H H1 → H1 R = some (.lst (ts'.map V.ref)) → RowsO c H1 ts' (putG rows r q) → Q .non H1
  | _ => False
theorem ok_lput (A : At K mg "_law_put" "_law_put" s_law_put ["rows", "key", "value"]) (T : Txt K mg c) (H_law_at : Has P w K mg base CX0 "_law_at" 2 ["rows", "key"] (spLAt c)) : Has P w K mg base CX0 "_law_put" 3 ["rows", "key", "value"] (spLPut c) := by
  have Sc := sc_law_put
  refine has_of A Sc (fun vs H Q E h => ?_) (fun cdv f A outer s H vs Q E hr h => ?_)
  · unfold spLPut at h; split at h; rfl; cases h
  · unfold spLPut at h
    split at h
    · rename_i R k v
      obtain ⟨ts, rows, r, q, el, hts, hk, hv, hkb, hkr, hnd, hn, h⟩ := h
      have hle : ts.length = rows.length := Paired.length hts
      refine ⟨_, (pss_cons (ps_set (i := 3) Sc.nd rfl (.inl rfl) (fe_call H_law_at (hr.mono (by walk_at "rm")) (by rfl) pass0 (pa_cons (fe_var 0) (pa_cons (fe_var 1) pa_nil))))
      (pss_one (ps_if (pt_cmpR op_fLt (fe_var 3) pe_int (nomark _)) (pss_one (ps_expr (fe_bm PySem.F.plainAttrs_list PySem.F.slot_list_append PySem.F.type_list_append isLst_ty mt_fAppend (fe_var 0) (pa_cons (fe_tup (pa_cons (fe_var 1) (pa_cons (fe_var 2) pa_nil))) pa_nil)))) (pss_one (ps_asg (fe_tup (pa_cons (pe_ix ix_fx (pe_ix ix_fx (fe_var 0) (fe_var 3) (fun _ _ => rfl)) pe_int (fun _ _ => rfl)) (pa_cons (fe_var 2) pa_nil))) (pg_sub (fe_var 0) (fe_var 3) set_fx)))))), ?_⟩
      walk_at "fx0"
      repeat (walk_at "oxs")
      refine ⟨ts, rows, r, el, hts, hk, hkb, hkr, hn, ?_⟩
      unfold idxR
      rcases caseG r hnd with ⟨i, r', h1, h2, h3, h4, h5, h6⟩ | ⟨h3, h4, hno, h6⟩
      · rw [h3]
        obtain ⟨hi, _⟩ := List.getElem?_eq_some_iff.mp h1
        have ex : (ts.map V.ref)[i]? = some (.ref (ts[i]'(by omega))) := by rw [List.getElem?_map, List.getElem?_eq_getElem (by omega)]; rfl
        obtain ⟨q', eq, k1, v1, et, g1, g2⟩ := paired_get hts (List.getElem?_eq_getElem (show i < ts.length by omega))
        rw [h1] at eq
        cases eq
        repeat (walk_at "oxs")
        rw [if_neg (by omega)]
        refine ⟨_, rl_l el, _, atI_nat ex, ?_⟩
        walk_at "ox"
        refine ⟨_, rl_t et, _, rfl, fun p H1 np s1 ep => ?_⟩
        simp only [s1 _ _ el]
        refine ⟨i, ixN_nat2 (by rw [List.length_map]; omega), ?_⟩
        have kR : Keep [R] H1 (upd H1 R (.lst ((ts.map V.ref).set i (.ref p)))) := Keep.refl.upd (by simp)
        have hs : HardStay c H1 (upd H1 R (.lst ((ts.map V.ref).set i (.ref p)))) := .keep kR fun p m => by rw [List.mem_singleton.mp m]; exact soft_lst (s1 _ _ el)
        refine h _ (ts.set i p) ((Keep.of s1).trans kR) (by rw [upd_same, List.map_set]) ?_
        rw [h6 q]
        refine paired_set (RowsO.hs (RowsO.hs hts (.same s1)) hs) ⟨k1, v, hs _ _ ep (Hard.t _), ?_, (hv.same s1).hs hs⟩ i
        rw [← h2]
        exact (g1.same s1).hs hs
      · rw [h3]
        repeat (walk_at "oxs")
        rw [el]
        refine ⟨trivial, fun p H1 np s1 ep => ?_⟩
        simp only [s1 _ _ el]
        refine ⟨len_line' (by rw [List.length_map]; omega), ?_⟩
        have kR : Keep [R] H1 (upd H1 R (.lst (ts.map V.ref ++ [.ref p]))) := Keep.refl.upd (by simp)
        have hs : HardStay c H1 (upd H1 R (.lst (ts.map V.ref ++ [.ref p]))) := .keep kR fun p m => by rw [List.mem_singleton.mp m]; exact soft_lst (s1 _ _ el)
        refine h _ (ts ++ [p]) ((Keep.of s1).trans kR) (by rw [upd_same, List.map_append]; rfl) ?_
        rw [h6 q]
        exact Paired.snoc (RowsO.hs (RowsO.hs hts (.same s1)) hs) ⟨k, v, hs _ _ ep (Hard.t _), (hk.same s1).hs hs, (hv.same s1).hs hs⟩
    · cases h
def spLPairs (c : Cs) : Sp := fun vs H Q _ => match vs with
  | [.ref p, .ref R] => ∃ ts us rows, H p = some (.lst (ts.map V.ref)) ∧ H R = some (.lst (us.map V.ref)) ∧ RowsO c H ts rows ∧ RowsO c H us rows ∧ RowsN rows ∧ Q (.bl true) H
  | _ => False
theorem ok_lpairs (A : At K mg "_law_pairs" "_law_pairs" s_law_pairs ["told", "rows"]) (T : Txt K mg c) (H_law_same : Has P w K mg base CX0 "_law_same" 1 ["x", "y"] (spLSame c)) : Has P w K mg base CX0 "_law_pairs" 2 ["told", "rows"] (spLPairs c) := by
  have Sc := sc_law_pairs
  refine has_of A Sc (fun vs H Q E h => ?_) (fun cdv f A outer s H vs Q E hr h => ?_)
  · unfold spLPairs at h; split at h; rfl; cases h
  · unfold spLPairs at h
    split at h
    · rename_i p R
      obtain ⟨ts, us, rows, ep, el, hts, hus, hN, h⟩ := h
      have hle : ts.length = rows.length := Paired.length hts
      have hlu : us.length = rows.length := Paired.length hus
      have hn := hN.le
      refine ⟨_, (pss_cons (ps_if (PW.pt (pw_or (pt_not (pt_val (pe_callB (call_fIsiA T.kit) (by rfl) T.no_isinstance (by decide +kernel) (pa_cons (fe_var 0) (pa_cons (fe_ty (n := "list") (by rfl) T.no_list (by decide +kernel)) pa_nil))))) (pw_or1 (pt_cmpR (op_fNe hr.units) (pe_callB call_fLen (by rfl) T.no_len (by decide +kernel) (pa_cons (fe_var 0) pa_nil)) (pe_callB call_fLen (by rfl) T.no_len (by decide +kernel) (pa_cons (fe_var 1) pa_nil)) (nomark _))))) (pss_one (ps_ret pe_bl)) pss_nil)
      (pss_cons (ps_for PassesOwn.never rfl (pi_range1 (by rfl) T.no_range (pa_cons (pe_callB call_fLen (by rfl) T.no_len (by decide +kernel) (pa_cons (fe_var 1) pa_nil)) pa_nil)) (pg_name (i := 2) Sc.nd rfl (.inl rfl)) (pss_cons (ps_if (PW.pt (pw_or (pt_not (pt_val (pe_callB (call_fIsiA T.kit) (by rfl) T.no_isinstance (by decide +kernel) (pa_cons (pe_ix ix_fx (fe_var 0) (fe_var 2) (fun _ _ => rfl)) (pa_cons (fe_ty (n := "tuple") (by rfl) T.no_tuple (by decide +kernel)) pa_nil))))) (pw_or1 (pt_not (pt_val (fe_call H_law_same (hr.mono (by walk_at "rm")) (by rfl) pass0 (pa_cons (pe_ix ix_fx (pe_ix ix_fx (fe_var 0) (fe_var 2) (fun _ _ => rfl)) pe_int (fun _ _ => rfl)) (pa_cons (pe_ix ix_fx (pe_ix ix_fx (fe_var 1) (fe_var 2) (fun _ _ => rfl)) pe_int (fun _ _ => rfl)) pa_nil)))))))) (pss_one (ps_ret pe_bl)) pss_nil)
      (pss_one (ps_if (pt_not (pt_val (fe_call H_law_same (hr.mono (by walk_at "rm")) (by rfl) pass0 (pa_cons (pe_ix ix_fx (pe_ix ix_fx (fe_var 0) (fe_var 2) (fun _ _ => rfl)) pe_int (fun _ _ => rfl)) (pa_cons (pe_ix ix_fx (pe_ix ix_fx (fe_var 1) (fe_var 2) (fun _ _ => rfl)) pe_int (fun _ _ => rfl)) pa_nil))))) (pss_one (ps_ret pe_bl)) pss_nil))))
      (pss_one (ps_ret pe_bl)))), ?_⟩
      walk_at "fx0"
      repeat (first | walk_at "oxs" | simp only [ep])
      refine ⟨_, rl_l ep, _, rl_l el, ?_⟩
      rw [List.length_map, List.length_map, hle, hlu, if_neg (by simp)]
      refine for_ ?_
      walk_at "ox"
      refine ⟨_, rl_l el, ?_⟩
      rw [List.length_map, hlu]
      have hb : (-2 ^ 62 : Int) ≤ rows.length ∧ (rows.length : Int) < 2 ^ 62 := by omega
      refine ⟨hb.1, hb.2, loop_range (fun i σ H' => H' = H ∧ ∃ v, σ = [some (.ref p), some (.ref R), v]) ⟨rfl, none, rfl⟩ ?_ ?_⟩
      · rintro i σ H1 hi ⟨rfl, v, rfl⟩
        have ex : (ts.map V.ref)[i]? = some (.ref (ts[i]'(by omega))) := by rw [List.getElem?_map, List.getElem?_eq_getElem (by omega)]; rfl
        have ey : (us.map V.ref)[i]? = some (.ref (us[i]'(by omega))) := by rw [List.getElem?_map, List.getElem?_eq_getElem (by omega)]; rfl
        obtain ⟨q, eq, k1, v1, et, g1, g2⟩ := paired_get hts (List.getElem?_eq_getElem (show i < ts.length by omega))
        obtain ⟨q', eq', k2, v2, eu, g3, g4⟩ := paired_get hus (List.getElem?_eq_getElem (show i < us.length by omega))
        rw [eq] at eq'
        cases eq'
        have n1 := keyB_nb (hN.kb q (List.mem_of_getElem? eq))
        have n2 := hN.nb q (List.mem_of_getElem? eq)
        walk_at "ox"
        refine ⟨_, rl_l ep, _, atI_nat ex, ?_⟩
        repeat (first | walk_at "oxs" | simp only [et])
        refine ⟨_, rl_l ep, _, atI_nat ex, ?_⟩
        walk_at "ox"
        refine ⟨_, rl_t et, _, rfl, _, rl_l el, _, atI_nat ey, ?_⟩
        walk_at "ox"
        refine ⟨_, rl_t eu, _, rfl, q.1, q.1, g1, g3, n1, n1, ?_⟩
        walk_at "ox"
        refine ⟨_, rl_l ep, _, atI_nat ex, ?_⟩
        walk_at "ox"
        refine ⟨_, rl_t et, _, rfl, _, rl_l el, _, atI_nat ey, ?_⟩
        walk_at "ox"
        refine ⟨_, rl_t eu, _, rfl, q.2, q.2, g2, g4, n2, n2, ?_⟩
        walk_at "ox"
        exact ⟨_, rfl⟩
      · rintro σ H1 ⟨rfl, v, rfl⟩
        walk_at "ox"
        exact h
    · cases h
def spLIs (c : Cs) : Sp := fun vs H Q _ => match vs with
  | [.ref p, v] => ∃ u r, H p = some (.tup [.str "told", u]) ∧ IsVal c H u r ∧ IsVal c H v r ∧ NoB r ∧ Q (.bl true) H
  | _ => False
theorem ok_lis (A : At K mg "_law_is" "_law_is" s_law_is ["told", "value"]) (T : Txt K mg c) (H_law_same : Has P w K mg base CX0 "_law_same" 1 ["x", "y"] (spLSame c)) : Has P w K mg base CX0 "_law_is" 2 ["told", "value"] (spLIs c) := by
  have Sc := sc_law_is
  refine has_of A Sc (fun vs H Q E h => ?_) (fun cdv f A outer s H vs Q E hr h => ?_)
  · unfold spLIs at h; split at h; rfl; cases h
  · unfold spLIs at h
    split at h
    · rename_i p v
      obtain ⟨u, r, ep, hu, hv, hnb, h⟩ := h
      refine ⟨_, (pss_one (ps_ret (pe_and (pe_cmpR (op_fEq hr.units) (pe_ix ix_fx (fe_var 0) pe_int (fun _ _ => rfl)) pe_str (nomark _)) (pe_one (fe_call H_law_same (hr.mono (by walk_at "rm")) (by rfl) pass0 (pa_cons (pe_ix ix_fx (fe_var 0) pe_int (fun _ _ => rfl)) (pa_cons (fe_var 1) pa_nil))))))), ?_⟩
      walk_at "fx0"
      repeat (walk_at "oxs")
      refine ⟨_, rl_t ep, _, rfl, ?_⟩
      repeat (walk_at "oxs")
      refine ⟨_, rl_t ep, _, rfl, r, r, hu, hv, hnb, hnb, ?_⟩
      simpa using h
    · cases h
def spLTry (K : PySem.W.Frag) (w : World) (c : Cs) : Sp := fun vs H Q _ => match vs with
  | [.ref y, .str deed, .str z, .ref vl] => ∃ x S rows xs vr R, y = x.y ∧ Sto w c H x S ∧ S.things[1]? = some (.table rows) ∧ rows.length ≤ 1000 ∧ S.things.length < 90000 ∧ H vl = some (.lst xs) ∧ VsAt c H xs vr ∧ (∀ r ∈ vr, WfR S r) ∧ vr.length < 10 ∧
    ((deed = "call" ∧ MethM S 1 rows z vr R) ∨ (deed = "get" ∧ ∃ k, vr = [k] ∧ R = getM rows k) ∨ (deed = "set" ∧ ∃ k v, vr = [k, v] ∧ R = setM rows k v)) ∧ ResM w c H x S 1 R (fun v H1 => newT [.str "told", v] H1 Q) (ECatch c Q)
  | _ => False
theorem dne : (("call" : Str) == "get") = false ∧ ¬ (("call" : Str) = "get") ∧ (("call" : Str) == "set") = false ∧ ¬ (("call" : Str) = "set") ∧ (("get" : Str) == "call") = false ∧ ¬ (("get" : Str) = "call") ∧ (("get" : Str) == "set") = false ∧ ¬ (("get" : Str) = "set") ∧ (("set" : Str) == "call") = false ∧ ¬ (("set" : Str) = "call") ∧ (("set" : Str) == "get") = false ∧ ¬ (("set" : Str) = "get") := by (repeat' apply And.intro) <;> decide +kernel
theorem ok_ltry (A : At K mg "_law_try" "_law_try" s_law_try ["store", "deed", "name", "values"]) (T : Txt K mg c) (H_call_method : Has P w K mg base (L2.CX P w) "call_method" 7 ["store", "x", "name", "values"] (spMethM K w c)) (H_get_item : Has P w K mg base (L2.CX P w) "get_item" 4 ["store", "x", "i"] (spGetM w c)) (H_set_item : Has P w K mg base (L2.CX P w) "set_item" 5 ["store", "x", "i", "value"] (spSetM w c)) (M_Ref : HasC P w K mg base CX0 c.Ref "Ref" 1 ["self", "number"] (spMk_Ref K c)) : Has P w K mg base CX0 "_law_try" 8 ["store", "deed", "name", "values"] (spLTry K w c) := by
  have Sc := sc_law_try
  refine has_of A Sc (fun vs H Q E h => ?_) (fun cdv f A outer s H vs Q E hr h => ?_)
  · unfold spLTry at h; split at h; rfl; cases h
  · unfold spLTry at h
    split at h
    · rename_i y deed z vl
      obtain ⟨x, S, rows, xs, vr, R, rfl, hS, et, hn, hl, evl, hxs, hwf, hvr, hR, h⟩ := h
      refine ⟨_, (pss_one (ps_try_as (i := 4) rfl rfl Sc.nd rfl rfl ⟨by rfl, by decide, .inl T.mg_ScriptError⟩ takes0
      (fun W0 _ _ tk0 po0 => (pss_cons (ps_if (pt_cmpR (op_fEqK (K := K) hr.units rfl) (fe_var 1) pe_str (nomark _)) (pss_one (ps_ret (fe_tup (pa_cons pe_str (pa_cons (fe_callX H_call_method (hr.mono (by walk_at "rm")) (by rfl) tk0 (pa_cons (fe_var 0) (pa_cons (fe_make (k := _) M_Ref (hr.mono (by walk_at "rm")) (by rfl) pass0 (pa_cons pe_int pa_nil)) (pa_cons (fe_var 2) (pa_cons (fe_var 3) pa_nil))))) pa_nil))))) pss_nil)
      (pss_cons (ps_if (pt_cmpR (op_fEqK (K := K) hr.units rfl) (fe_var 1) pe_str (nomark _)) (pss_one (ps_ret (fe_tup (pa_cons pe_str (pa_cons (fe_callX H_get_item (hr.mono (by walk_at "rm")) (by rfl) tk0 (pa_cons (fe_var 0) (pa_cons (fe_make (k := _) M_Ref (hr.mono (by walk_at "rm")) (by rfl) pass0 (pa_cons pe_int pa_nil)) (pa_cons (pe_ix (ix_fxK (K := K) rfl) (fe_var 3) pe_int (fun _ _ => rfl)) pa_nil)))) pa_nil))))) pss_nil)
      (pss_one (ps_ret (fe_tup (pa_cons pe_str (pa_cons (fe_callX H_set_item (hr.mono (by walk_at "rm")) (by rfl) tk0 (pa_cons (fe_var 0) (pa_cons (fe_make (k := _) M_Ref (hr.mono (by walk_at "rm")) (by rfl) pass0 (pa_cons pe_int pa_nil)) (pa_cons (pe_ix (ix_fxK (K := K) rfl) (fe_var 3) pe_int (fun _ _ => rfl)) (pa_cons (pe_ix (ix_fxK (K := K) rfl) (fe_var 3) pe_int (fun _ _ => rfl)) pa_nil))))) pa_nil))))))))
      (fun a0 oe0 cls0 d0 pn0 hz0 hf0 => (pss_one (ps_ret (fe_tup (pa_cons (fe_xf T.xpl_kind hz0 hf0 (fe_var 4) rfl) (pa_cons (fe_xf T.xpl_message hz0 hf0 (fe_var 4) rfl) pa_nil)))))))), ?_⟩
      walk_at "fx0"
      have fin : ∀ (cls : Value) (d : Option Addr) (H2 : Hp), ECatch c Q cls d H2 → ECatch c Q cls d H2 := fun _ _ _ q => q
      rcases hR with ⟨rfl, hR⟩ | ⟨rfl, k, rfl, rfl⟩ | ⟨rfl, k, v, rfl, rfl⟩
      · repeat (first | walk_at "oxs" | simp only [dne])
        unfold spMk_Ref
        intro r rdx H1 nr s1 er
        refine ⟨x, S, 1, rows, xs, vr, R, rfl, hS.same s1, ⟨r, rfl, rdx, er⟩, et, hn, hl, s1 _ _ evl, hxs.hs (.same s1), hwf, hvr, hR, (h.same s1).mono (fun v H1 q => ?_) ?_⟩
        · repeat (walk_at "oxs")
          exact q
        · rintro _ _ H2 ⟨dd, k, m, rfl, rfl, e, q⟩
          unfold WE wAs
          refine ⟨_, T.em_ScriptError_ScriptError, fun _ a0 na0 => ?_, fun z => by cases z⟩
          repeat (first | walk_at "oxs" | simp only [e])
          exact q
      · obtain ⟨v, rfl, hv⟩ := vm_one hxs
        repeat (first | walk_at "oxs" | simp only [dne])
        unfold spMk_Ref
        intro r rdx H1 nr s1 er
        refine ⟨_, rl_l (s1 _ _ evl), _, rfl, x, S, 1, rows, k, rfl, hS.same s1, ⟨r, rfl, rdx, er⟩, et, hv.same s1, (h.same s1).mono (fun v H1 q => ?_) ?_⟩
        · repeat (walk_at "oxs")
          exact q
        · rintro _ _ H2 ⟨dd, k, m, rfl, rfl, e, q⟩
          unfold WE wAs
          refine ⟨_, T.em_ScriptError_ScriptError, fun _ a0 na0 => ?_, fun z => by cases z⟩
          repeat (first | walk_at "oxs" | simp only [e])
          exact q
      · obtain ⟨v1, v2, rfl, hv1, hv2⟩ := vm_two hxs
        repeat (first | walk_at "oxs" | simp only [dne])
        unfold spMk_Ref
        intro r rdx H1 nr s1 er
        refine ⟨_, rl_l (s1 _ _ evl), _, rfl, _, rl_l (s1 _ _ evl), _, rfl, x, S, 1, rows, k, v, rfl, hS.same s1, ⟨r, rfl, rdx, er⟩, et, hn, hv1.same s1, hv2.same s1, (h.same s1).mono (fun v H1 q => ?_) ?_⟩
        · repeat (walk_at "oxs")
          exact q
        · rintro _ _ H2 ⟨dd, k, m, rfl, rfl, e, q⟩
          unfold WE wAs
          refine ⟨_, T.em_ScriptError_ScriptError, fun _ a0 na0 => ?_, fun z => by cases z⟩
          repeat (first | walk_at "oxs" | simp only [e])
          exact q
    · cases h
end

section
variable {P : Program} {w : World} {K : PySem.W.Frag} {mg : Str → Option Value} {base : Heap} {c : Cs}
/-! ### the store and the law's own entries -/
def GRows (c : Cs) (R : Addr) (rows : List (RV × RV)) (H : Hp) : Prop := ∃ ts : List Addr, H R = some (.lst (ts.map V.ref)) ∧ RowsO c H ts rows
theorem gm_rows {R : Addr} {rows : List (RV × RV)} : ∀ H H', GRows c R rows H → HardStay c H H' → (∀ q ∈ [R], ∀ o, H q = some o → H' q = some o) → GRows c R rows H' := fun H H' ⟨ts, e, hv⟩ hs k => ⟨ts, k R (by simp) _ e, hv.hs hs⟩
abbrev LW (K : PySem.W.Frag) (w : World) (c : Cs) (H0 : Hp) (s sc : Addr) (ns : List Int) (x : SA) (S : SV) (R : Addr) (rows : List (RV × RV)) (H : Hp) : Prop := Wd K w c H0 s sc ns x S (GRows c R rows) [R] H
theorem LW.own {H0 : Hp} {s sc : Addr} {ns : List Int} {x : SA} {S : SV} {R : Addr} {rows rows' : List (RV × RV)} {H H1 : Hp} {ts : List Addr} (W : LW K w c H0 s sc ns x S R rows H) (k : Keep [R] H H1) (e : H1 R = some (.lst (ts.map V.ref))) (hv : RowsO c H1 ts rows') : LW K w c H0 s sc ns x S R rows' H1 := by
  obtain ⟨us, e0, _⟩ := Wd.g W
  exact Wd.own W (by simp) k (soft_lst e0) ⟨_, e⟩ ⟨ts, e, hv⟩ gm_rows
structure LI (S : SV) (rows : List (RV × RV)) : Prop where
  it : S.things[1]? = some (.table rows)
  rn : RowsN rows
theorem LI.two {S : SV} {rows : List (RV × RV)} (h : LI S rows) : 2 ≤ S.things.length := (List.getElem?_eq_some_iff.mp h.it).1
theorem LI.set {S : SV} {rows rows' : List (RV × RV)} (h : LI S rows) (hn : RowsN rows') : LI (S.setT 1 (.table rows')) rows' := ⟨by
  show (S.things.set 1 _)[1]? = _
  rw [List.getElem?_set]
  simp [show 1 < S.things.length from h.two], hn⟩
theorem LI.adds {S : SV} {rows : List (RV × RV)} {ts : List Th} (h : LI S rows) : LI (S.adds ts) rows := ⟨by
  show (S.things ++ ts)[1]? = _
  rw [List.getElem?_append_left h.two, h.it], h.rn⟩
theorem setT_len {S : SV} {n : Nat} {t : Th} : (S.setT n t).things.length = S.things.length := List.length_set ..
theorem adds_len {S : SV} {ts : List Th} : (S.adds ts).things.length = S.things.length + ts.length := List.length_append ..
def Cont (K : PySem.W.Frag) (w : World) (c : Cs) (H0 : Hp) (s sc : Addr) (ns : List Int) (y R : Addr) (n : Nat) (Q : VK) : Prop := ∀ H1 x' S' rows', LW K w c H0 s sc ns x' S' R rows' H1 → LI S' rows' → x'.y = y → S'.things.length ≤ n → Q (.bl true) H1
section
variable {H0 H : Hp} {s sc : Addr} {ns : List Int} {x : SA} {S : SV} {R l : Addr} {rows : List (RV × RV)} {v : V} {r : RV} {z : Str} {op : MOp} {xs : List V} {Q : VK}
theorem try_call (st : Sto w c H x S) (I : LI S rows) (hl : S.things.length < 90000) (el : H l = some (.lst xs)) {ks : List Str} (hk : MK.lookup (MOp.name op) = some (some ks)) (hxs : VsAt c H xs (MOp.args op)) (hw : ∀ r ∈ MOp.args op, WfR S r) (hkl : (MOp.args op).length = ks.length) (hk10 : ks.length < 10) (hf : fitsK S (MOp.args op) ks = true) (hok : MOp.ok S 1 op) (h : ResM w c H x S 1 (doM S rows op) (fun v H1 => newT [.str "told", v] H1 Q) (ECatch c Q)) : spLTry K w c [.ref x.y, .str "call", .str (MOp.name op), .ref l] H Q E0 :=
  ⟨x, S, rows, xs, MOp.args op, _, rfl, st, I.it, I.rn.le, hl, el, hxs, hw, by omega, .inl ⟨rfl, .ok op ks hk hk10 hkl hf rfl rfl hok⟩, h⟩
theorem fitK_any {r : RV} : fitK S r "any" = true := by
  unfold fitK
  rw [if_neg (by decide)]
  simp
theorem fitK_key (h : keyB r = true) : fitK S r "key" = true := by
  unfold fitK
  rw [if_pos rfl]
  cases r <;> first
    | (cases h; done)
    | (simp only [kindR]; decide)
theorem fitK_map {n : Nat} {others : List (RV × RV)} (e : S.things[n]? = some (.table others)) : fitK S (.ob n) "map" = true := by
  unfold fitK
  rw [if_neg (by decide)]
  have : kindR S (.ob n) = "map" := by
    show (match S.things[n]? with | some t => kindT t | none => "function") = _
    rw [e]; rfl
  rw [this]
  simp
theorem wf_key (h : keyB r = true) : WfR S r := fun n e => by subst e; cases h
end
theorem cut_lo {xs : List V} {i : Nat} (h : i ≤ xs.length) : cutV xs none (some (i : Int)) = xs.take i := by
  have e2 : HT.sIx xs.length xs.length (some (i : Nat)) = i := by rw [HT.sIx_nat]; omega
  unfold cutV
  rw [HT.sIx_none, e2]
  simp
theorem cut_hi {xs : List V} {i : Nat} (h : i < xs.length) : cutV xs (some ((i : Int) + 1)) none = xs.drop (i + 1) := by
  have e1 : HT.sIx xs.length 0 (some (((i + 1 : Nat) : Int))) = i + 1 := by rw [HT.sIx_nat]; omega
  have e : ((i : Int) + 1) = ((i + 1 : Nat) : Int) := by omega
  unfold cutV
  rw [e, HT.sIx_none, e1]
  exact List.take_of_length_le (by rw [List.length_drop]; omega)
def spLTaken (K : PySem.W.Frag) (w : World) (c : Cs) : Sp := fun vs H Q _ => match vs with
  | [.ref y, .ref R, k] => ∃ H0 s sc ns x S rows r, y = x.y ∧ LW K w c H0 s sc ns x S R rows H ∧ LI S rows ∧ S.things.length < 90000 ∧ IsVal c H k r ∧ keyB r = true ∧ Cont K w c H0 s sc ns y R S.things.length Q
  | _ => False
set_option maxHeartbeats 4000000 in
theorem ok_ltaken (A : At K mg "_law_taken" "_law_taken" s_law_taken ["store", "rows", "key"]) (T : Txt K mg c) (H_law_at : Has P w K mg base CX0 "_law_at" 2 ["rows", "key"] (spLAt c)) (H_law_try : Has P w K mg base CX0 "_law_try" 8 ["store", "deed", "name", "values"] (spLTry K w c)) (H_law_is : Has P w K mg base CX0 "_law_is" 2 ["told", "value"] (spLIs c)) : Has P w K mg base CX0 "_law_taken" 9 ["store", "rows", "key"] (spLTaken K w c) := by
  have Sc := sc_law_taken
  refine has_of A Sc (fun vs H Q E h => ?_) (fun cdv f A outer s H vs Q E hr h => ?_)
  · unfold spLTaken at h; split at h; rfl; cases h
  · unfold spLTaken at h
    split at h
    · rename_i y R k
      obtain ⟨H0, s, sc, ns, x, S, rows, r, rfl, W, I, hl, hk, hkb, h⟩ := h
      obtain ⟨ts, el, hts⟩ := Wd.g W
      have hle : ts.length = rows.length := Paired.length hts
      have hn := I.rn.le
      have hlow : sizeLine = 1152921504606846975 - 0 ∨ True := .inr trivial
      refine ⟨_, (pss_cons (ps_set (i := 3) Sc.nd rfl (.inl rfl) (fe_call H_law_at (hr.mono (by walk_at "rm")) (by rfl) pass0 (pa_cons (fe_var 1) (pa_cons (fe_var 2) pa_nil))))
      (pss_cons (ps_set (i := 4) Sc.nd rfl (.inl rfl) (fe_call H_law_try (hr.mono (by walk_at "rm")) (by rfl) pass0 (pa_cons (fe_var 0) (pa_cons pe_str (pa_cons pe_str (pa_cons (fe_lst (pa_cons (fe_var 2) pa_nil)) pa_nil))))))
      (pss_cons (ps_if (pt_cmpR op_fLt (fe_var 3) pe_int (nomark _)) (pss_one (ps_ret (pe_cmpR (op_fEq hr.units) (fe_var 4) (fe_tup (pa_cons pe_str (pa_cons pe_str pa_nil))) (nomark _)))) pss_nil)
      (pss_cons (ps_set (i := 5) Sc.nd rfl (.inl rfl) (pe_ix ix_fx (pe_ix ix_fx (fe_var 1) (fe_var 3) (fun _ _ => rfl)) pe_int (fun _ _ => rfl)))
      (pss_cons (ps_set (i := 6) Sc.nd rfl (.inl rfl) (pe_op op_fAdd (pe_slice sl_fx (fe_var 1) po_none (po_some (fe_var 3))) (pe_slice sl_fx (fe_var 1) (po_some (pe_op op_fAdd (fe_var 3) pe_int)) po_none)))
      (pss_cons (ps_expr (fe_bm0 PySem.F.plainAttrs_list PySem.F.slot_list_clear PySem.F.type_list_clear isLst_ty mt_fClear (fe_var 1)))
      (pss_cons (ps_expr (fe_bm PySem.F.plainAttrs_list PySem.F.slot_list_extend PySem.F.type_list_extend isLst_ty mt_fExtend (fe_var 1) (pa_cons (fe_var 6) pa_nil)))
      (pss_one (ps_ret (fe_call H_law_is (hr.mono (by walk_at "rm")) (by rfl) pass0 (pa_cons (fe_var 4) (pa_cons (fe_var 5) pa_nil)))))))))))), ?_⟩
      walk_at "fx0"
      walk_at "ox"
      refine ⟨ts, rows, r, el, hts, hk, hkb, I.rn.kb, hn, ?_⟩
      walk_at "ox"
      intro l H1 nl s1 e1
      have W1 := Wd.same W s1
      refine try_call (op := .remove r) (Wd.st W1) I hl e1 (ks := ["key"]) (show MK.lookup ("remove" : Str) = _ by decide +kernel) (.cons (hk.same s1) .nil) (fun q m => by rw [List.mem_singleton.mp m]; exact wf_key hkb) rfl (by decide) (by simp [MOp.args, fitsK, fitK_key hkb]) hkb ?_
      have el1 := s1 _ _ el
      simp only [doM]
      unfold idxR
      rcases caseG r I.rn.nd with ⟨i, r', h1, h2, h3, h4, h5, h6⟩ | ⟨h3, h4, hno, h6⟩
      · rw [h3, h4]
        intro v d H2 k2 hd so st hv p H3 np s3 ep
        have W2 : LW K w c H0 s sc ns x _ R rows H2 := Wd.set W1 hd k2 so st
        have W3 := Wd.same W2 s3
        obtain ⟨us, eu, hus⟩ := Wd.g W3
        have hlu : us.length = rows.length := Paired.length hus
        obtain ⟨hi, _⟩ := List.getElem?_eq_some_iff.mp h1
        have ex : (us.map V.ref)[i]? = some (.ref (us[i]'(by omega))) := by rw [List.getElem?_map, List.getElem?_eq_getElem (by omega)]; rfl
        obtain ⟨q', eq, k1, v1, et, g1, g2⟩ := paired_get hus (List.getElem?_eq_getElem (show i < us.length by omega))
        rw [h1] at eq
        cases eq
        have hnb := I.rn.nb _ (List.mem_of_getElem? h1)
        repeat (walk_at "oxs")
        rw [if_neg (by omega)]
        refine ⟨_, rl_l eu, _, atI_nat ex, ?_⟩
        walk_at "ox"
        refine ⟨_, rl_t et, _, rfl, _, SqL.of eu, fun l1 H4 nl1 s4 e4 => ?_⟩
        refine ⟨_, SqL.of (s4 _ _ eu), fun l2 H5 nl2 s5 e5 => ?_⟩
        have e45 := s5 _ _ e4
        simp only [e45, e5]
        rw [cut_lo (by rw [List.length_map]; omega), cut_hi (by rw [List.length_map]; omega)]
        have hlc : (us.map V.ref).length = rows.length := by rw [List.length_map, hlu]
        refine ⟨by rw [sizeLine_eq, List.length_take, List.length_drop, hlc]; omega, fun l3 H6 nl3 s6 e6 => ?_⟩
        have eu6 : H6 R = some (.lst (us.map V.ref)) := s6 _ _ (s5 _ _ (s4 _ _ eu))
        have n3 : l3 ≠ R := fun z => by rw [z, s5 _ _ (s4 _ _ eu)] at nl3; cases nl3
        simp only [eu6]
        refine ⟨trivial, ?_⟩
        simp only [upd_same, (upd_ne n3).trans e6]
        refine ⟨by rw [sizeLine_eq, List.length_nil, List.length_append, List.length_take, List.length_drop, hlc]; omega, ?_⟩
        have W6 := Wd.same W3 ((s4.trans s5).trans s6)
        have kR : Keep [R] H6 (upd H6 R (.lst ([] ++ ((us.map V.ref).take i ++ (us.map V.ref).drop (i + 1))))) := Keep.refl.upd (by simp)
        have hsR : HardStay c H6 (upd H6 R (.lst ([] ++ ((us.map V.ref).take i ++ (us.map V.ref).drop (i + 1))))) := .keep kR fun p m => by rw [List.mem_singleton.mp m]; exact soft_lst eu6
        have S36 := (s4.trans s5).trans s6
        have npR : p ≠ R := fun z => by rw [z, k2 _ _ (by
          intro m
          have := (Wd.nd W1)
          exact (Wd.f_gf W1 hd (List.mem_singleton.mpr rfl)) (List.mem_singleton.mp m).symm) el1] at np; cases np
        have W7 : LW K w c H0 s sc ns x _ R (dropG rows r) _ := LW.own (ts := us.eraseIdx i) W6 kR (by rw [upd_same, List.nil_append, List.eraseIdx_eq_take_drop_succ, List.map_append, List.map_take, List.map_drop]) (by
          rw [h5]
          exact paired_erase (RowsO.hs hus ((HardStay.same S36).trans hsR)) i)
        refine ⟨v, r'.2, kR _ _ (by simpa using npR) (S36 _ _ ep), ((hv.same s3).same S36).hs hsR, (g2.same S36).hs hsR, hnb, ?_⟩
        exact h _ x _ _ W7 (I.set I.rn.drop) rfl (by rw [setT_len]; exact Nat.le_refl _)
      · rw [h3, h4]
        refine outS_catch fun p H2 np s2 ep => ?_
        repeat (walk_at "oxs")
        intro q H3 nq s3 eq
        refine ⟨_, .tup (.inl (.inl (s3 _ _ ep))) (dpAll_sc rfl), _, .tup (.inl (.inl eq)) (dpAll_sc rfl), tup_okd rfl, tup_okd rfl, ?_⟩
        rw [tup_eqv rfl]
        exact h H3 x S rows (Wd.same W1 (s2.trans s3)) I rfl (Nat.le_refl _)
    · cases h
def spLSet (K : PySem.W.Frag) (w : World) (c : Cs) : Sp := fun vs H Q _ => match vs with
  | [.ref y, .ref R, k, v] => ∃ H0 s sc ns x S rows r q, y = x.y ∧ LW K w c H0 s sc ns x S R rows H ∧ LI S rows ∧ S.things.length < 90000 ∧ IsVal c H k r ∧ keyB r = true ∧ IsVal c H v q ∧ NoB q ∧ WfR S q ∧ Cont K w c H0 s sc ns y R S.things.length Q
  | _ => False
set_option maxHeartbeats 4000000 in
theorem ok_lset (A : At K mg "_law_set" "_law_set" s_law_set ["store", "rows", "key", "value"]) (T : Txt K mg c) (H_law_at : Has P w K mg base CX0 "_law_at" 2 ["rows", "key"] (spLAt c)) (H_law_try : Has P w K mg base CX0 "_law_try" 8 ["store", "deed", "name", "values"] (spLTry K w c)) (H_law_is : Has P w K mg base CX0 "_law_is" 2 ["told", "value"] (spLIs c)) (H_law_put : Has P w K mg base CX0 "_law_put" 3 ["rows", "key", "value"] (spLPut c)) : Has P w K mg base CX0 "_law_set" 9 ["store", "rows", "key", "value"] (spLSet K w c) := by
  have Sc := sc_law_set
  refine has_of A Sc (fun vs H Q E h => ?_) (fun cdv f A outer s H vs Q E hr h => ?_)
  · unfold spLSet at h; split at h; rfl; cases h
  · unfold spLSet at h
    split at h
    · rename_i y R k v
      obtain ⟨H0, s, sc, ns, x, S, rows, r, q, rfl, W, I, hl, hk, hkb, hv, hnb, hwf, h⟩ := h
      have hn := I.rn.le
      refine ⟨_, (pss_cons (ps_set (i := 4) Sc.nd rfl (.inl rfl) (fe_call H_law_try (hr.mono (by walk_at "rm")) (by rfl) pass0 (pa_cons (fe_var 0) (pa_cons pe_str (pa_cons pe_str (pa_cons (fe_lst (pa_cons (fe_var 2) (pa_cons (fe_var 3) pa_nil))) pa_nil))))))
      (pss_cons (ps_if (PW.pt (pw_and (pt_cmpR op_fLt (fe_call H_law_at (hr.mono (by walk_at "rm")) (by rfl) pass0 (pa_cons (fe_var 1) (pa_cons (fe_var 2) pa_nil))) pe_int (nomark _)) (pw_and1 (pt_cmpR op_fGe (pe_callB call_fLen (by rfl) T.no_len (by decide +kernel) (pa_cons (fe_var 1) pa_nil)) pe_int (nomark _))))) (pss_one (ps_ret (pe_cmpR (op_fEq hr.units) (fe_var 4) (fe_tup (pa_cons pe_str (pa_cons pe_str pa_nil))) (nomark _)))) pss_nil)
      (pss_cons (ps_expr (fe_call H_law_put (hr.mono (by walk_at "rm")) (by rfl) pass0 (pa_cons (fe_var 1) (pa_cons (fe_var 2) (pa_cons (fe_var 3) pa_nil)))))
      (pss_one (ps_ret (fe_call H_law_is (hr.mono (by walk_at "rm")) (by rfl) pass0 (pa_cons (fe_var 4) (pa_cons (fe_var 3) pa_nil)))))))), ?_⟩
      walk_at "fx0"
      walk_at "ox"
      intro l H1 nl s1 e1
      have W1 := Wd.same W s1
      refine ⟨x, S, rows, _, [r, q], _, rfl, Wd.st W1, I.it, hn, hl, e1, .cons (hk.same s1) (.cons (hv.same s1) .nil), (fun t m => by
        simp only [List.mem_cons, List.not_mem_nil, or_false] at m
        rcases m with rfl | rfl
        · exact wf_key hkb
        · exact hwf), by simp, .inr (.inr ⟨rfl, r, q, rfl, rfl⟩), ?_⟩
      unfold setM
      rw [if_pos hkb]
      have fin : ∀ x' S' H2 p u, LW K w c H0 s sc ns x' S' R rows H2 → S'.things.length = S.things.length → x'.y = x.y → H2 p = some (.tup [.str "told", u]) → IsVal c H2 u q → IsVal c H2 k r → IsVal c H2 v q → (putG rows r q).length ≤ 1000 → LI S' (putG rows r q) → p ≠ R → spLPut c [.ref R, k, v] H2 (fun _ H3 => spLIs c [.ref p, v] H3 Q E0) E0 := fun x' S' H2 p u W2 hS' hy ep hu hk2 hv2 hlen I' npR => by
        obtain ⟨ts, el, hts⟩ := Wd.g W2
        refine ⟨ts, rows, r, q, el, hts, hk2, hv2, hkb, I.rn.kb, I.rn.nd, hn, fun H3 ts' k3 e3 hts' => ?_⟩
        have hs3 : HardStay c H2 H3 := .keep k3 fun p m => by rw [List.mem_singleton.mp m]; exact soft_lst el
        have W3 : LW K w c H0 s sc ns x' S' R (putG rows r q) H3 := LW.own W2 k3 e3 hts'
        exact ⟨u, q, k3 _ _ (by simpa using npR) ep, hu.hs hs3, hv2.hs hs3, hnb, h H3 x' S' _ W3 I' hy (by omega)⟩
      have npR : ∀ {p : Addr} {H2 : Hp}, LW K w c H0 s sc ns x S R rows H2 → H2 p = none → p ≠ R := fun W2 np z => by
        obtain ⟨ts, el, _⟩ := Wd.g W2
        rw [z, el] at np; cases np
      by_cases hq : lkG rows r = none ∧ rows.length = 1000
      · rw [if_pos hq]
        refine outS_catch fun p H2 np s2 ep => ?_
        have W2 := Wd.same W1 s2
        obtain ⟨ts, el, hts⟩ := Wd.g W2
        have hle : ts.length = rows.length := Paired.length hts
        repeat (walk_at "oxs")
        refine ⟨ts, rows, r, el, hts, (hk.same s1).same s2, hkb, I.rn.kb, hn, ?_⟩
        have hi : idxR rows r = -1 := by
          unfold idxR
          rcases caseG r I.rn.nd with ⟨i, r', h1, h2, h3, h4, _⟩ | ⟨h3, _⟩
          · rw [hq.1] at h4; cases h4
          · rw [h3]
        rw [hi]
        repeat (walk_at "oxs")
        refine ⟨_, rl_l el, ?_⟩
        rw [List.length_map, hle, if_pos (by omega)]
        intro p2 H3 np2 s3 ep2
        refine ⟨_, .tup (.inl (.inl (s3 _ _ ep))) (dpAll_sc rfl), _, .tup (.inl (.inl ep2)) (dpAll_sc rfl), tup_okd rfl, tup_okd rfl, ?_⟩
        rw [tup_eqv rfl]
        exact h H3 x S rows (Wd.same W2 s3) I rfl (Nat.le_refl _)
      · rw [if_neg hq]
        intro u d H2 k2 hd so st hu p H3 np s3 ep
        have W2 : LW K w c H0 s sc ns x _ R rows H2 := Wd.set W1 hd k2 so st
        have W3 := Wd.same W2 s3
        obtain ⟨ts, el, hts⟩ := Wd.g W3
        have hle : ts.length = rows.length := Paired.length hts
        have hs12 : HardStay c H1 H2 := .keep k2 fun p m => by rw [List.mem_singleton.mp m]; exact so
        have hk3 := ((hk.same s1).hs hs12).same s3
        have hv3 := ((hv.same s1).hs hs12).same s3
        have hlen : (putG rows r q).length ≤ 1000 := by
          rw [putG_len]
          split
          · exact hn
          · rename_i z
            have : lkG rows r = none := by simpa using z
            have : rows.length ≠ 1000 := fun e => hq ⟨this, e⟩
            omega
        have npR3 : p ≠ R := fun z => by
          obtain ⟨ts, el, _⟩ := Wd.g W2
          rw [z, el] at np; cases np
        have F := fin x _ H3 p u W3 setT_len rfl ep (hu.same s3) hk3 hv3 hlen (I.set (I.rn.put hkb hnb hlen)) npR3
        repeat (walk_at "oxs")
        refine ⟨ts, rows, r, el, hts, hk3, hkb, I.rn.kb, hn, ?_⟩
        unfold idxR
        rcases caseG r I.rn.nd with ⟨i, r', h1, h2, h3, h4, _⟩ | ⟨h3, h4, _⟩
        · rw [h3]
          repeat (walk_at "oxs")
          rw [if_neg (by omega)]
          exact F
        · rw [h3]
          repeat (walk_at "oxs")
          refine ⟨_, rl_l el, ?_⟩
          have : rows.length ≠ 1000 := fun e => hq ⟨h4, e⟩
          rw [List.length_map, hle, if_neg (by omega)]
          exact F
    · cases h
def spLRead (K : PySem.W.Frag) (w : World) (c : Cs) : Sp := fun vs H Q _ => match vs with
  | [.ref y, .ref R, k, v] => ∃ H0 s sc ns x S rows r q, y = x.y ∧ LW K w c H0 s sc ns x S R rows H ∧ LI S rows ∧ S.things.length < 90000 ∧ IsVal c H k r ∧ keyB r = true ∧ IsVal c H v q ∧ NoB q ∧ WfR S q ∧ Cont K w c H0 s sc ns y R S.things.length Q
  | _ => False
theorem Wd.setSelf {H0 : Hp} {s sc : Addr} {ns : List Int} {x : SA} {S : SV} {R : Addr} {rows : List (RV × RV)} {H H1 : Hp} {d : Addr} (W : LW K w c H0 s sc ns x S R rows H) (I : LI S rows) (hd : d ∈ x.foot) (k : Keep [d] H H1) (so : Soft c H d) (st : Sto w c H1 x (S.setT 1 (.table rows))) : LW K w c H0 s sc ns x S R rows H1 := by
  rw [SV.setT_self I.it] at st
  exact Wd.set W hd k so st
theorem keep_tup {H H1 : Hp} {d p : Addr} {xs : List V} (so : Soft c H d) (k : Keep [d] H H1) (e : H p = some (.tup xs)) : H1 p = some (.tup xs) := k _ _ (fun m => so _ (by rw [← List.mem_singleton.mp m]; exact e) (Hard.t _)) e
set_option maxHeartbeats 8000000 in
theorem ok_lread (A : At K mg "_law_read" "_law_read" s_law_read ["store", "rows", "key", "value"]) (T : Txt K mg c) (H_law_at : Has P w K mg base CX0 "_law_at" 2 ["rows", "key"] (spLAt c)) (H_law_try : Has P w K mg base CX0 "_law_try" 8 ["store", "deed", "name", "values"] (spLTry K w c)) (H_law_is : Has P w K mg base CX0 "_law_is" 2 ["told", "value"] (spLIs c)) : Has P w K mg base CX0 "_law_read" 9 ["store", "rows", "key", "value"] (spLRead K w c) := by
  have Sc := sc_law_read
  refine has_of A Sc (fun vs H Q E h => ?_) (fun cdv f A outer s H vs Q E hr h => ?_)
  · unfold spLRead at h; split at h; rfl; cases h
  · unfold spLRead at h
    split at h
    · rename_i y R k v
      obtain ⟨H0, s, sc, ns, x, S, rows, r, q, rfl, W, I, hl, hk, hkb, hv, hnb, hwf, h⟩ := h
      obtain ⟨ts, el, hts⟩ := Wd.g W
      have hle : ts.length = rows.length := Paired.length hts
      have hn := I.rn.le
      refine ⟨_, (pss_cons (ps_set (i := 4) Sc.nd rfl (.inl rfl) (fe_call H_law_at (hr.mono (by walk_at "rm")) (by rfl) pass0 (pa_cons (fe_var 1) (pa_cons (fe_var 2) pa_nil))))
      (pss_cons (ps_set (i := 5) Sc.nd rfl (.inl rfl) (fe_call H_law_try (hr.mono (by walk_at "rm")) (by rfl) pass0 (pa_cons (fe_var 0) (pa_cons pe_str (pa_cons pe_str (pa_cons (fe_lst (pa_cons (fe_var 2) pa_nil)) pa_nil))))))
      (pss_cons (ps_set (i := 6) Sc.nd rfl (.inl rfl) (fe_call H_law_try (hr.mono (by walk_at "rm")) (by rfl) pass0 (pa_cons (fe_var 0) (pa_cons pe_str (pa_cons pe_str (pa_cons (fe_lst (pa_cons (fe_var 2) (pa_cons (fe_var 3) pa_nil))) pa_nil))))))
      (pss_cons (ps_set (i := 7) Sc.nd rfl (.inl rfl) (fe_call H_law_try (hr.mono (by walk_at "rm")) (by rfl) pass0 (pa_cons (fe_var 0) (pa_cons pe_str (pa_cons pe_str (pa_cons (fe_lst (pa_cons (fe_var 2) pa_nil)) pa_nil))))))
      (pss_cons (ps_if (pt_cmpR op_fLt (fe_var 4) pe_int (nomark _)) (pss_one (ps_ret (pe_and (pe_cmpR (op_fEq hr.units) (fe_var 5) (fe_tup (pa_cons pe_str (pa_cons pe_str pa_nil))) (nomark _)) (pe_and (fe_call H_law_is (hr.mono (by walk_at "rm")) (by rfl) pass0 (pa_cons (fe_var 6) (pa_cons (fe_var 3) pa_nil))) (pe_one (fe_call H_law_is (hr.mono (by walk_at "rm")) (by rfl) pass0 (pa_cons (fe_var 7) (pa_cons pe_bl pa_nil)))))))) pss_nil)
      (pss_one (ps_ret (pe_and (fe_call H_law_is (hr.mono (by walk_at "rm")) (by rfl) pass0 (pa_cons (fe_var 5) (pa_cons (pe_ix ix_fx (pe_ix ix_fx (fe_var 1) (fe_var 4) (fun _ _ => rfl)) pe_int (fun _ _ => rfl)) pa_nil))) (pe_and (fe_call H_law_is (hr.mono (by walk_at "rm")) (by rfl) pass0 (pa_cons (fe_var 6) (pa_cons (pe_ix ix_fx (pe_ix ix_fx (fe_var 1) (fe_var 4) (fun _ _ => rfl)) pe_int (fun _ _ => rfl)) pa_nil))) (pe_one (fe_call H_law_is (hr.mono (by walk_at "rm")) (by rfl) pass0 (pa_cons (fe_var 7) (pa_cons pe_bl pa_nil))))))))))))), ?_⟩
      walk_at "fx0"
      simp only [tSeq]
      walk_at "ox"
      refine ⟨ts, rows, r, el, hts, hk, hkb, I.rn.kb, hn, ?_⟩
      walk_at "ox"
      intro l H1 nl s1 e1
      have W1 := Wd.same W s1
      refine ⟨x, S, rows, _, [r], _, rfl, Wd.st W1, I.it, hn, hl, e1, .cons (hk.same s1) .nil, (fun t m => by rw [List.mem_singleton.mp m]; exact wf_key hkb), by simp, .inr (.inl ⟨rfl, r, rfl, rfl⟩), ?_⟩
      unfold getM idxR
      rw [if_pos hkb]
      have nm1 : ∀ {S : SV}, fitsK S [r, q] ["key", "any"] = true := by simp [fitsK, fitK_key hkb, fitK_any]
      have nm2 : ∀ {S : SV}, fitsK S [r] ["key"] = true := by simp [fitsK, fitK_key hkb]
      have wf2 : ∀ t ∈ [r, q], WfR S t := fun t m => by
        simp only [List.mem_cons, List.not_mem_nil, or_false] at m
        rcases m with rfl | rfl
        · exact wf_key hkb
        · exact hwf
      have wf1 : ∀ t ∈ [r], WfR S t := fun t m => by rw [List.mem_singleton.mp m]; exact wf_key hkb
      rcases caseG r I.rn.nd with ⟨i, r', h1, h2, h3, h4, _⟩ | ⟨h3, h4, _⟩
      · rw [h3, h4]
        intro u1 d1 H2 k2 hd1 so1 st1 hu1 p1 H3 np1 s3 ep1
        have W3 := Wd.same (Wd.setSelf W1 I hd1 k2 so1 st1) s3
        have hs13 : HardStay c H1 H3 := (HardStay.keep k2 fun p m => by rw [List.mem_singleton.mp m]; exact so1).trans (.same s3)
        walk_at "ox"
        intro l2 H4 nl2 s4 e4
        have W4 := Wd.same W3 s4
        refine try_call (op := .get r q) (Wd.st W4) I hl e4 (ks := ["key", "any"]) (show MK.lookup ("get" : Str) = _ by decide +kernel) (.cons (((hk.same s1).hs hs13).same s4) (.cons (((hv.same s1).hs hs13).same s4) .nil)) wf2 rfl (by decide) nm1 hkb ?_
        simp only [doM, h4, Option.getD]
        intro u2 d2 H5 k5 hd2 so2 st2 hu2 p2 H6 np2 s6 ep2
        have W6 := Wd.same (Wd.setSelf W4 I hd2 k5 so2 st2) s6
        have hs46 : HardStay c H4 H6 := (HardStay.keep k5 fun p m => by rw [List.mem_singleton.mp m]; exact so2).trans (.same s6)
        have ep16 := s6 _ _ (keep_tup so2 k5 (s4 _ _ ep1))
        walk_at "ox"
        intro l3 H7 nl3 s7 e7
        have W7 := Wd.same W6 s7
        refine try_call (op := .has r) (Wd.st W7) I hl e7 (ks := ["key"]) (show MK.lookup ("has" : Str) = _ by decide +kernel) (.cons (((((hk.same s1).hs hs13).same s4).hs hs46).same s7) .nil) wf1 rfl (by decide) nm2 hkb ?_
        simp only [doM, h4, Option.isSome]
        intro u3 d3 H8 k8 hd3 so3 st3 hu3 p3 H9 np3 s9 ep3
        have W9 := Wd.same (Wd.setSelf W7 I hd3 k8 so3 st3) s9
        have hs79 : HardStay c H7 H9 := (HardStay.keep k8 fun p m => by rw [List.mem_singleton.mp m]; exact so3).trans (.same s9)
        have ep19 := s9 _ _ (keep_tup so3 k8 (s7 _ _ ep16))
        have ep29 := s9 _ _ (keep_tup so3 k8 (s7 _ _ ep2))
        obtain ⟨us, eu, hus⟩ := Wd.g W9
        have hlu : us.length = rows.length := Paired.length hus
        obtain ⟨hi, _⟩ := List.getElem?_eq_some_iff.mp h1
        have ex : (us.map V.ref)[i]? = some (.ref (us[i]'(by omega))) := by rw [List.getElem?_map, List.getElem?_eq_getElem (by omega)]; rfl
        obtain ⟨q', eq, k1, v1, et, g1, g2⟩ := paired_get hus (List.getElem?_eq_getElem (show i < us.length by omega))
        rw [h1] at eq
        cases eq
        have hnb' := I.rn.nb _ (List.mem_of_getElem? h1)
        have hu1' : IsVal c H9 u1 r'.2 := (((((hu1.same s3).same s4).hs hs46).same s7).hs hs79)
        have hu2' : IsVal c H9 u2 r'.2 := (((hu2.same s6).same s7).hs hs79)
        repeat (walk_at "oxs")
        rw [if_neg (by omega)]
        refine ⟨_, rl_l eu, _, atI_nat ex, ?_⟩
        walk_at "ox"
        refine ⟨_, rl_t et, _, rfl, u1, r'.2, ep19, hu1', g2, hnb', ?_⟩
        walk_at "ox"
        refine ⟨_, rl_l eu, _, atI_nat ex, ?_⟩
        walk_at "ox"
        refine ⟨_, rl_t et, _, rfl, u2, r'.2, ep29, hu2', g2, hnb', ?_⟩
        walk_at "ox"
        refine ⟨u3, .boo true, ep3, hu3.same s9, rfl, (fun z e => by cases e), ?_⟩
        exact h H9 x S rows W9 I rfl (Nat.le_refl _)
      · rw [h3, h4]
        refine outS_catch fun p1 H3 np1 s3 ep1 => ?_
        have W3 := Wd.same W1 s3
        walk_at "ox"
        intro l2 H4 nl2 s4 e4
        have W4 := Wd.same W3 s4
        refine try_call (op := .get r q) (Wd.st W4) I hl e4 (ks := ["key", "any"]) (show MK.lookup ("get" : Str) = _ by decide +kernel) (.cons (((hk.same s1).same s3).same s4) (.cons (((hv.same s1).same s3).same s4) .nil)) wf2 rfl (by decide) nm1 hkb ?_
        simp only [doM, h4, Option.getD]
        intro u2 d2 H5 k5 hd2 so2 st2 hu2 p2 H6 np2 s6 ep2
        have W6 := Wd.same (Wd.setSelf W4 I hd2 k5 so2 st2) s6
        have hs46 : HardStay c H4 H6 := (HardStay.keep k5 fun p m => by rw [List.mem_singleton.mp m]; exact so2).trans (.same s6)
        have ep16 := s6 _ _ (keep_tup so2 k5 (s4 _ _ ep1))
        walk_at "ox"
        intro l3 H7 nl3 s7 e7
        have W7 := Wd.same W6 s7
        refine try_call (op := .has r) (Wd.st W7) I hl e7 (ks := ["key"]) (show MK.lookup ("has" : Str) = _ by decide +kernel) (.cons (((((hk.same s1).same s3).same s4).hs hs46).same s7) .nil) wf1 rfl (by decide) nm2 hkb ?_
        simp only [doM, h4, Option.isSome]
        intro u3 d3 H8 k8 hd3 so3 st3 hu3 p3 H9 np3 s9 ep3
        have W9 := Wd.same (Wd.setSelf W7 I hd3 k8 so3 st3) s9
        have hs79 : HardStay c H7 H9 := (HardStay.keep k8 fun p m => by rw [List.mem_singleton.mp m]; exact so3).trans (.same s9)
        have ep19 := s9 _ _ (keep_tup so3 k8 (s7 _ _ ep16))
        have ep29 := s9 _ _ (keep_tup so3 k8 (s7 _ _ ep2))
        have hu2' : IsVal c H9 u2 q := (((hu2.same s6).same s7).hs hs79)
        have hv9 : IsVal c H9 v q := (((((hv.same s1).same s3).same s4).hs hs46).same s7).hs hs79
        repeat (walk_at "oxs")
        intro p4 H10 np4 s10 ep4
        refine ⟨_, .tup (.inl (.inl (s10 _ _ ep19))) (dpAll_sc rfl), _, .tup (.inl (.inl ep4)) (dpAll_sc rfl), tup_okd rfl, tup_okd rfl, ?_⟩
        rw [tup_eqv rfl]
        walk_at "ox"
        refine ⟨u2, q, s10 _ _ ep29, hu2'.same s10, hv9.same s10, hnb, ?_⟩
        walk_at "ox"
        refine ⟨u3, .boo false, s10 _ _ ep3, (hu3.same s9).same s10, rfl, (fun z e => by cases e), ?_⟩
        exact h H10 x S rows (Wd.same W9 s10) I rfl (Nat.le_refl _)
    · cases h
end

section
variable {P : Program} {w : World} {K : PySem.W.Frag} {mg : Str → Option Value} {base : Heap} {c : Cs}
/-! ### keys, values, entries listed -/
theorem made_W {H0 H H1 : Hp} {s sc : Addr} {ns : List Int} {x x' : SA} {S : SV} {R : Addr} {rows : List (RV × RV)} {ts : List Th} (W : LW K w c H0 s sc ns x S R rows H) (k : Keep [x.tl] H H1) (st : Sto w c H1 x' (S.adds ts)) (hf : ∀ q ∈ x'.foot, q ∈ x.foot ∨ H q = none) : LW K w c H0 s sc ns x' (S.adds ts) R rows H1 :=
  Wd.mv W k (fun p m => by rw [List.mem_singleton.mp m]; simp [SA.foot]) (Wd.st W).soft_tl st hf
theorem tl_hs {H H1 : Hp} {x : SA} {S : SV} (st : Sto w c H x S) (k : Keep [x.tl] H H1) : HardStay c H H1 := .keep k st.soft_tl
theorem obj_parts {H : Hp} {x : SA} {S : SV} (st : Sto w c H x S) {n : Nat} {rs : List RV} (e : S.things[n]? = some (.parts rs)) : ∃ a l xs dx, atI (x.L.map fun p => V.ref p.1) (n : Nat) = some (.ref a) ∧ H a = some (.ins c.Parts dx [("held", .ref l)]) ∧ H l = some (.lst xs) ∧ VsAt c H xs rs := by
  obtain ⟨a, b, h1, h2, h3⟩ := st.num e
  obtain ⟨dx, l, xs, rfl, e1, e2, e3⟩ := h2
  exact ⟨a, l, xs, dx, h3, e1, e2, e3⟩
def spLListed (K : PySem.W.Frag) (w : World) (c : Cs) : Sp := fun vs H Q _ => match vs with
  | [.ref y, .ref R] => ∃ H0 s sc ns x S rows, y = x.y ∧ LW K w c H0 s sc ns x S R rows H ∧ LI S rows ∧ S.things.length < 80000 ∧ rows.length ≤ 100 ∧ Cont K w c H0 s sc ns y R (S.things.length + 103) Q
  | _ => False
def LstI (H9 : Hp) (y R p1 p2 p3 q1 q2 q3 : Addr) (_ : Nat) (σ : L2.St) (H' : Hp) : Prop := H' = H9 ∧ ∃ v w, σ = [some (.ref y), some (.ref R), some (.ref p1), some (.ref p2), some (.ref p3), some (.ref q1), some (.ref q2), some (.ref q3), v, w]
theorem lst_inj {H : Hp} {l : Addr} {xs : List V} {ts : List Addr} (h : H l = some (.lst xs)) (e : xs = ts.map V.ref) : H l = some (.lst (ts.map V.ref)) := by rw [h, e]
set_option maxHeartbeats 8000000 in
theorem ok_llisted (A : At K mg "_law_listed" "_law_listed" s_law_listed ["store", "rows"]) (T : Txt K mg c) (H_law_try : Has P w K mg base CX0 "_law_try" 8 ["store", "deed", "name", "values"] (spLTry K w c)) (H_law_same : Has P w K mg base CX0 "_law_same" 1 ["x", "y"] (spLSame c)) : Has P w K mg base CX0 "_law_listed" 9 ["store", "rows"] (spLListed K w c) := by
  have Sc := sc_law_listed
  refine has_of A Sc (fun vs H Q E h => ?_) (fun cdv f A outer s H vs Q E hr h => ?_)
  · unfold spLListed at h; split at h; rfl; cases h
  · unfold spLListed at h
    split at h
    · rename_i y R
      obtain ⟨H0, s, sc, ns, x, S, rows, rfl, W, I, hl, h100, h⟩ := h
      have hn := I.rn.le
      refine ⟨_, (pss_cons (ps_set (i := 2) Sc.nd rfl (.inl rfl) (fe_call H_law_try (hr.mono (by walk_at "rm")) (by rfl) pass0 (pa_cons (fe_var 0) (pa_cons pe_str (pa_cons pe_str (pa_cons (fe_lst pa_nil) pa_nil))))))
      (pss_cons (ps_if (PW.pt (pw_or (pt_cmpR (op_fNe hr.units) (pe_ix ix_fx (fe_var 2) pe_int (fun _ _ => rfl)) pe_str (nomark _)) (pw_or1 (pt_not (pt_val (pe_callB (call_fIsiO T.kit) (by rfl) T.no_isinstance (by decide +kernel) (pa_cons (pe_ix ix_fx (fe_var 2) pe_int (fun _ _ => rfl)) (pa_cons (pe_glob (v := .ref c.Ref) (by rfl) T.mg_Ref rfl) pa_nil)))))))) (pss_one (ps_ret pe_bl)) pss_nil)
      (pss_cons (ps_set (i := 3) Sc.nd rfl (.inl rfl) (fe_call H_law_try (hr.mono (by walk_at "rm")) (by rfl) pass0 (pa_cons (fe_var 0) (pa_cons pe_str (pa_cons pe_str (pa_cons (fe_lst pa_nil) pa_nil))))))
      (pss_cons (ps_set (i := 4) Sc.nd rfl (.inl rfl) (fe_call H_law_try (hr.mono (by walk_at "rm")) (by rfl) pass0 (pa_cons (fe_var 0) (pa_cons pe_str (pa_cons pe_str (pa_cons (fe_lst pa_nil) pa_nil))))))
      (pss_cons (ps_set (i := 5) Sc.nd rfl (.inl rfl) (fe_fld (pe_ix ix_fx (fe_fld (fe_var 0) T.pl_things rfl) (fe_fld (pe_ix ix_fx (fe_var 2) pe_int (fun _ _ => rfl)) T.pl_number rfl) (fun _ _ => rfl)) T.pl_held rfl))
      (pss_cons (ps_set (i := 6) Sc.nd rfl (.inl rfl) (fe_fld (pe_ix ix_fx (fe_fld (fe_var 0) T.pl_things rfl) (fe_fld (pe_ix ix_fx (fe_var 3) pe_int (fun _ _ => rfl)) T.pl_number rfl) (fun _ _ => rfl)) T.pl_held rfl))
      (pss_cons (ps_set (i := 7) Sc.nd rfl (.inl rfl) (fe_fld (pe_ix ix_fx (fe_fld (fe_var 0) T.pl_things rfl) (fe_fld (pe_ix ix_fx (fe_var 4) pe_int (fun _ _ => rfl)) T.pl_number rfl) (fun _ _ => rfl)) T.pl_held rfl))
      (pss_cons (ps_if (PW.pt (pw_or (pt_cmpR (op_fNe hr.units) (pe_callB call_fLen (by rfl) T.no_len (by decide +kernel) (pa_cons (fe_var 5) pa_nil)) (pe_callB call_fLen (by rfl) T.no_len (by decide +kernel) (pa_cons (fe_var 1) pa_nil)) (nomark _)) (pw_or (pt_cmpR (op_fNe hr.units) (pe_callB call_fLen (by rfl) T.no_len (by decide +kernel) (pa_cons (fe_var 6) pa_nil)) (pe_callB call_fLen (by rfl) T.no_len (by decide +kernel) (pa_cons (fe_var 1) pa_nil)) (nomark _)) (pw_or1 (pt_cmpR (op_fNe hr.units) (pe_callB call_fLen (by rfl) T.no_len (by decide +kernel) (pa_cons (fe_var 7) pa_nil)) (pe_callB call_fLen (by rfl) T.no_len (by decide +kernel) (pa_cons (fe_var 1) pa_nil)) (nomark _)))))) (pss_one (ps_ret pe_bl)) pss_nil)
      (pss_cons (ps_if (pt_cmpR (op_fNe hr.units) (fe_fld (pe_ix ix_fx (fe_var 4) pe_int (fun _ _ => rfl)) T.pl_number rfl) (pe_op op_fAdd (pe_op op_fAdd (fe_fld (pe_ix ix_fx (fe_var 3) pe_int (fun _ _ => rfl)) T.pl_number rfl) (pe_callB call_fLen (by rfl) T.no_len (by decide +kernel) (pa_cons (fe_var 1) pa_nil))) pe_int) (nomark _)) (pss_one (ps_ret pe_bl)) pss_nil)
      (pss_cons (ps_for PassesOwn.never rfl (pi_range1 (by rfl) T.no_range (pa_cons (pe_callB call_fLen (by rfl) T.no_len (by decide +kernel) (pa_cons (fe_var 1) pa_nil)) pa_nil)) (pg_name (i := 8) Sc.nd rfl (.inl rfl)) (pss_cons (ps_set (i := 9) Sc.nd rfl (.inl rfl) (fe_fld (pe_ix ix_fx (fe_fld (fe_var 0) T.pl_things rfl) (fe_fld (pe_ix ix_fx (fe_var 7) (fe_var 8) (fun _ _ => rfl)) T.pl_number rfl) (fun _ _ => rfl)) T.pl_held rfl))
      (pss_cons (ps_if (PW.pt (pw_or (pt_cmpR (op_fNe hr.units) (fe_fld (pe_ix ix_fx (fe_var 7) (fe_var 8) (fun _ _ => rfl)) T.pl_number rfl) (pe_op op_fAdd (pe_op op_fAdd (fe_fld (pe_ix ix_fx (fe_var 3) pe_int (fun _ _ => rfl)) T.pl_number rfl) pe_int) (fe_var 8)) (nomark _)) (pw_or1 (pt_cmpR (op_fNe hr.units) (pe_callB call_fLen (by rfl) T.no_len (by decide +kernel) (pa_cons (fe_var 9) pa_nil)) pe_int (nomark _))))) (pss_one (ps_ret pe_bl)) pss_nil)
      (pss_cons (ps_if (PW.pt (pw_or (pt_not (pt_val (fe_call H_law_same (hr.mono (by walk_at "rm")) (by rfl) pass0 (pa_cons (pe_ix ix_fx (fe_var 5) (fe_var 8) (fun _ _ => rfl)) (pa_cons (pe_ix ix_fx (pe_ix ix_fx (fe_var 1) (fe_var 8) (fun _ _ => rfl)) pe_int (fun _ _ => rfl)) pa_nil))))) (pw_or1 (pt_not (pt_val (fe_call H_law_same (hr.mono (by walk_at "rm")) (by rfl) pass0 (pa_cons (pe_ix ix_fx (fe_var 6) (fe_var 8) (fun _ _ => rfl)) (pa_cons (pe_ix ix_fx (pe_ix ix_fx (fe_var 1) (fe_var 8) (fun _ _ => rfl)) pe_int (fun _ _ => rfl)) pa_nil)))))))) (pss_one (ps_ret pe_bl)) pss_nil)
      (pss_one (ps_if (PW.pt (pw_or (pt_not (pt_val (fe_call H_law_same (hr.mono (by walk_at "rm")) (by rfl) pass0 (pa_cons (pe_ix ix_fx (fe_var 9) pe_int (fun _ _ => rfl)) (pa_cons (pe_ix ix_fx (pe_ix ix_fx (fe_var 1) (fe_var 8) (fun _ _ => rfl)) pe_int (fun _ _ => rfl)) pa_nil))))) (pw_or1 (pt_not (pt_val (fe_call H_law_same (hr.mono (by walk_at "rm")) (by rfl) pass0 (pa_cons (pe_ix ix_fx (fe_var 9) pe_int (fun _ _ => rfl)) (pa_cons (pe_ix ix_fx (pe_ix ix_fx (fe_var 1) (fe_var 8) (fun _ _ => rfl)) pe_int (fun _ _ => rfl)) pa_nil)))))))) (pss_one (ps_ret pe_bl)) pss_nil))))))
      (pss_one (ps_ret pe_bl)))))))))))), ?_⟩
      walk_at "fx0"
      simp only [tSeq]
      refine cut_ fun N hN => ?_
      walk_at "ox"
      intro l1 H1 nl1 s1 e1
      have W1 := Wd.same W s1
      refine try_call (op := .keys) (Wd.st W1) I (by omega) e1 (ks := []) (show MK.lookup ("keys" : Str) = _ by decide +kernel) .nil (fun q m => by cases m) rfl (by decide) (by simp [MOp.args, fitsK]) trivial ?_
      intro v1 x1 H2 k2 st2 hf2 hy1 ht1 hv1 p1 H3 np1 s3 ep1
      rw [show S.things.length + [Th.parts (rows.map (·.1))].length - 1 = S.things.length from by simp] at hv1
      have W3 := Wd.same (made_W W1 k2 st2 hf2) s3
      obtain ⟨r1, rfl, hr1⟩ := hv1
      have hr1 := hr1.same s3
      refine hN _ _ ?_
      clear hN N
      simp only [tSeq]
      refine cut_ fun N hN => ?_
      repeat (walk_at "oxs")
      refine ⟨_, rl_t ep1, _, rfl, ?_⟩
      repeat (walk_at "oxs")
      obtain ⟨rdx1, er1⟩ := id hr1
      refine ⟨_, rl_t ep1, _, rfl, ?_⟩
      repeat (first | walk_at "oxs" | simp only [er1])
      refine hN _ _ ?_
      clear hN N
      simp only [tSeq]
      walk_at "ox"
      rw [← hy1]
      intro l2 H4 nl2 s4 e4
      have W4 := Wd.same W3 s4
      refine try_call (op := .values) (Wd.st W4) I.adds (by rw [adds_len]; simp; omega) e4 (ks := []) (show MK.lookup ("values" : Str) = _ by decide +kernel) .nil (fun q m => by cases m) rfl (by decide) (by simp [MOp.args, fitsK]) trivial ?_
      intro v2 x2 H5 k5 st5 hf5 hy2 ht2 hv2 p2 H6 np2 s6 ep2
      rw [show (S.adds [Th.parts (rows.map (·.1))]).things.length + [Th.parts (rows.map (·.2))].length - 1 = S.things.length + 1 from by simp [SV.adds]] at hv2
      have W6 := Wd.same (made_W W4 k5 st5 hf5) s6
      have hs46 := (tl_hs (Wd.st W4) k5).trans (.same s6)
      obtain ⟨r2, rfl, hr2⟩ := hv2
      have hr2 := hr2.same s6
      have ep1 := hs46 _ _ (s4 _ _ ep1) (Hard.t _)
      have hr1 := (hr1.same s4).hs hs46
      walk_at "ox"
      rw [← hy2]
      intro l3 H7 nl3 s7 e7
      have W7 := Wd.same W6 s7
      refine try_call (op := .items) (Wd.st W7) I.adds.adds (by rw [adds_len, adds_len]; simp; omega) e7 (ks := []) (show MK.lookup ("items" : Str) = _ by decide +kernel) .nil (fun q m => by cases m) rfl (by decide) (by simp [MOp.args, fitsK]) trivial ?_
      intro v3 x3 H8 k8 st8 hf8 hy3 ht3 hv3 p3 H9 np3 s9 ep3
      have hlen2 : ((S.adds [Th.parts (rows.map (·.1))]).adds [Th.parts (rows.map (·.2))]).things.length = S.things.length + 2 := by simp [SV.adds]
      rw [hlen2, show S.things.length + 2 + (itemsT ((S.adds [Th.parts (rows.map (·.1))]).adds [Th.parts (rows.map (·.2))]) rows).length - 1 = S.things.length + 2 + rows.length from by simp [itemsT]] at hv3
      have W9 := Wd.same (made_W W7 k8 st8 hf8) s9
      have hs79 := (tl_hs (Wd.st W7) k8).trans (.same s9)
      obtain ⟨r3, rfl, hr3⟩ := hv3
      obtain ⟨rdx3, er3⟩ := hr3.same s9
      have ep1 := hs79 _ _ (s7 _ _ ep1) (Hard.t _)
      have ep2 := hs79 _ _ (s7 _ _ ep2) (Hard.t _)
      obtain ⟨rdx1, er1⟩ := (hr1.same s7).hs hs79
      obtain ⟨rdx2, er2⟩ := (hr2.same s7).hs hs79
      have I9 : LI _ rows := (I.adds (ts := [Th.parts (rows.map (·.1))])).adds (ts := [Th.parts (rows.map (·.2))]) |>.adds (ts := itemsT ((S.adds [Th.parts (rows.map (·.1))]).adds [Th.parts (rows.map (·.2))]) rows)
      generalize hS3 : ((S.adds [Th.parts (rows.map (·.1))]).adds [Th.parts (rows.map (·.2))]).adds (itemsT ((S.adds [Th.parts (rows.map (·.1))]).adds [Th.parts (rows.map (·.2))]) rows) = S3 at W9 I9
      have t1 : S3.things[S.things.length]? = some (.parts (rows.map (·.1))) := by
        subst hS3
        simp only [SV.adds, List.append_assoc]
        rw [List.getElem?_append_right (Nat.le_refl _)]
        simp
      have t2 : S3.things[S.things.length + 1]? = some (.parts (rows.map (·.2))) := by
        subst hS3
        simp only [SV.adds, List.append_assoc]
        rw [List.getElem?_append_right (by omega)]
        simp
      have t3 : ∀ i r, rows[i]? = some r → S3.things[S.things.length + 2 + i]? = some (.parts [r.1, r.2]) := by
        intro i r er
        have hi := (List.getElem?_eq_some_iff.mp er).1
        subst hS3
        simp only [SV.adds, List.append_assoc, itemsT]
        rw [List.getElem?_append_right (by omega), show S.things.length + 2 + i - S.things.length = (i + 1) + 1 by omega]
        simp only [List.cons_append, List.nil_append, List.getElem?_cons_succ]
        rw [List.getElem?_append_left (by rw [List.length_map]; exact hi), List.getElem?_map, er]
        rfl
      have t4 : S3.things[S.things.length + 2 + rows.length]? = some (.parts ((List.range rows.length).map fun i => RV.ob (S.things.length + 2 + i))) := by
        subst hS3
        simp only [itemsT, hlen2]
        simp only [SV.adds, List.append_assoc]
        rw [List.getElem?_append_right (by omega), show S.things.length + 2 + rows.length - S.things.length = (rows.length + 1) + 1 by omega]
        simp only [List.cons_append, List.nil_append, List.getElem?_cons_succ]
        rw [List.getElem?_append_right (by rw [List.length_map]; exact Nat.le_refl _)]
        simp
      have hlen3 : S3.things.length = S.things.length + 3 + rows.length := by
        subst hS3
        simp [SV.adds, itemsT]
        omega
      have st9 := Wd.st W9
      obtain ⟨sdx, es⟩ := st9.st
      have hyy : x3.y = x.y := hy3.trans (hy2.trans hy1)
      obtain ⟨a1, q1, xs1, dx1, at1, ea1, eq1, hx1⟩ := obj_parts st9 t1
      obtain ⟨a2, q2, xs2, dx2, at2, ea2, eq2, hx2⟩ := obj_parts st9 t2
      obtain ⟨a3, q3, xs3, dx3, at3, ea3, eq3, hx3⟩ := obj_parts st9 t4
      obtain ⟨us, eu, hus⟩ := Wd.g W9
      have hlu : us.length = rows.length := Paired.length hus
      have l1' : xs1.length = rows.length := by rw [show xs1.length = _ from Paired.length hx1, List.length_map]
      have l2' : xs2.length = rows.length := by rw [show xs2.length = _ from Paired.length hx2, List.length_map]
      have l3' : xs3.length = rows.length := by rw [show xs3.length = _ from Paired.length hx3, List.length_map, List.length_range]
      rw [← hy3]
      simp only [es]
      walk_at "ox"
      refine ⟨_, rl_t ep1, _, rfl, ?_⟩
      simp only [er1]
      walk_at "ox"
      refine ⟨_, rl_l st9.et, _, at1, ?_⟩
      simp only [ea1]
      walk_at "ox"
      refine ⟨_, rl_t ep2, _, rfl, ?_⟩
      simp only [er2]
      walk_at "ox"
      refine ⟨_, rl_l st9.et, _, at2, ?_⟩
      simp only [ea2]
      walk_at "ox"
      refine ⟨_, rl_t ep3, _, rfl, ?_⟩
      simp only [er3]
      walk_at "ox"
      refine ⟨_, rl_l st9.et, _, at3, ?_⟩
      simp only [ea3]
      walk_at "ox"
      refine cut_ fun N hN => ifs_ ?_
      walk_at "ox"
      refine ⟨_, rl_l eq1, _, rl_l eu, ?_⟩
      rw [List.length_map, l1', hlu, if_neg (by simp)]
      refine ⟨_, rl_l eq2, _, rl_l eu, ?_⟩
      rw [List.length_map, l2', hlu, if_neg (by simp)]
      refine ⟨_, rl_l eq3, _, rl_l eu, ?_⟩
      rw [List.length_map, l3', hlu, if_neg (by simp)]
      refine hN _ _ ?_
      clear hN N
      simp only [tSeq]
      refine cut_ fun N hN => ifs_ ?_
      walk_at "ox"
      refine ⟨_, rl_t ep3, _, rfl, ?_⟩
      simp only [er3]
      walk_at "ox"
      refine ⟨_, rl_t ep2, _, rfl, ?_⟩
      simp only [er2]
      walk_at "ox"
      refine ⟨_, rl_l eu, ?_⟩
      rw [List.length_map, hlu, if_neg (by omega)]
      refine hN _ _ ?_
      clear hN N
      simp only [tSeq]
      refine cut_ fun N hN => for_ ?_
      walk_at "ox"
      refine ⟨_, rl_l eu, ?_⟩
      rw [List.length_map, hlu]
      refine ⟨by omega, by omega, loop_range (LstI H9 x3.y R p1 p2 p3 q1 q2 q3) ⟨rfl, none, none, rfl⟩ ?_ ?_⟩
      · rintro i σ H10 hi ⟨rfl, w8, w9, rfl⟩
        obtain ⟨r, er⟩ : ∃ r, rows[i]? = some r := ⟨rows[i], List.getElem?_eq_getElem hi⟩
        obtain ⟨a4, q4, xs4, dx4, at4, ea4, eq4, hx4⟩ := obj_parts st9 (t3 i r er)
        obtain ⟨va, vb, rfl, hva, hvb⟩ := vm_two hx4
        have ex3 := List.getElem?_eq_getElem (show i < xs3.length by omega)
        obtain ⟨o3, eo3, ho3⟩ := paired_get hx3 ex3
        have eo3' : o3 = .ob (S.things.length + 2 + i) := by
          rw [List.getElem?_map, List.getElem?_range hi] at eo3
          cases eo3; rfl
        subst eo3'
        obtain ⟨r4, er4, rdx4, er4'⟩ := ho3
        rw [er4] at ex3
        have ex1 := List.getElem?_eq_getElem (show i < xs1.length by omega)
        obtain ⟨o1, eo1, ho1⟩ := paired_get hx1 ex1
        have ex2 := List.getElem?_eq_getElem (show i < xs2.length by omega)
        obtain ⟨o2, eo2, ho2⟩ := paired_get hx2 ex2
        rw [List.getElem?_map, er] at eo1 eo2
        cases eo1
        cases eo2
        have exu : (us.map V.ref)[i]? = some (.ref (us[i]'(by omega))) := by rw [List.getElem?_map, List.getElem?_eq_getElem (by omega)]; rfl
        obtain ⟨q', eq', k1, v1, et, g1, g2⟩ := paired_get hus (List.getElem?_eq_getElem (show i < us.length by omega))
        rw [er] at eq'
        cases eq'
        have n1 := keyB_nb (I.rn.kb r (List.mem_of_getElem? er))
        have n2 := I.rn.nb r (List.mem_of_getElem? er)
        walk_at "ox"
        simp only [es]
        walk_at "ox"
        refine ⟨_, rl_l eq3, _, atI_nat ex3, ?_⟩
        simp only [er4']
        walk_at "ox"
        refine ⟨_, rl_l st9.et, _, at4, ?_⟩
        simp only [ea4]
        walk_at "ox"
        refine cut_ fun N2 hN2 => ifs_ ?_
        walk_at "ox"
        refine ⟨_, rl_l eq3, _, atI_nat ex3, ?_⟩
        simp only [er4']
        walk_at "ox"
        refine ⟨_, rl_t ep2, _, rfl, ?_⟩
        simp only [er2]
        walk_at "ox"
        rw [if_neg (by omega)]
        refine ⟨_, rl_l eq4, ?_⟩
        rw [if_neg (by simp)]
        refine hN2 _ _ ?_
        clear hN2 N2
        simp only [tSeq]
        refine cut_ fun N2 hN2 => ifs_ ?_
        walk_at "ox"
        refine ⟨_, rl_l eq1, _, atI_nat ex1, _, rl_l eu, _, atI_nat exu, ?_⟩
        walk_at "ox"
        refine ⟨_, rl_t et, _, rfl, r.1, r.1, ho1, g1, n1, n1, ?_⟩
        walk_at "ox"
        refine ⟨_, rl_l eq2, _, atI_nat ex2, _, rl_l eu, _, atI_nat exu, ?_⟩
        walk_at "ox"
        refine ⟨_, rl_t et, _, rfl, r.2, r.2, ho2, g2, n2, n2, ?_⟩
        walk_at "ox"
        refine hN2 _ _ ?_
        clear hN2 N2
        walk_at "ox"
        refine ifs_ ?_
        walk_at "ox"
        refine ⟨_, rl_l eq4, _, rfl, _, rl_l eu, _, atI_nat exu, ?_⟩
        walk_at "ox"
        refine ⟨_, rl_t et, _, rfl, r.1, r.1, hva, g1, n1, n1, ?_⟩
        walk_at "ox"
        refine ⟨_, rl_l eq4, _, rfl, _, rl_l eu, _, atI_nat exu, ?_⟩
        walk_at "ox"
        refine ⟨_, rl_t et, _, rfl, r.2, r.2, hvb, g2, n2, n2, ?_⟩
        walk_at "ox"
        exact ⟨rfl, _, _, rfl⟩
      · rintro σ H10 ⟨rfl, w8, w9, rfl⟩
        refine hN _ _ ?_
        walk_at "ox"
        exact h _ x3 S3 rows W9 I9 hyy (by omega)
    · cases h
end

section
variable {P : Program} {w : World} {K : PySem.W.Frag} {mg : Str → Option Value} {base : Heap} {c : Cs}
/-! ### maps merged -/
theorem RowsO.split {H : Hp} {ts : List Addr} {rows : List (RV × RV)} (h : RowsO c H ts rows) : ∃ rws, RowsT H ts rws ∧ RowsR c H rws rows := by
  induction h with
  | nil => exact ⟨[], .nil, .nil⟩
  | cons a t ih =>
    obtain ⟨k, v, e, h1, h2⟩ := a
    obtain ⟨rws, g1, g2⟩ := ih
    exact ⟨(k, v) :: rws, .cons e g1, .cons ⟨h1, h2⟩ g2⟩
theorem RowsR.sck {H : Hp} {rws : List (V × V)} {rows : List (RV × RV)} (h : RowsR c H rws rows) (kb : ∀ r ∈ rows, keyB r.1 = true) : scK rws := by
  induction h with
  | nil => exact fun x m => by cases m
  | cons a t ih =>
    intro x m
    rcases List.mem_cons.mp m with rfl | m
    · exact val_sc (kb _ (List.mem_cons_self ..)) a.1
    · exact ih (fun r m => kb r (List.mem_cons_of_mem _ m)) x m
theorem RowsR.nd {H : Hp} {rws : List (V × V)} {rows : List (RV × RV)} (h : RowsR c H rws rows) (kb : ∀ r ∈ rows, keyB r.1 = true) (nd : (rows.map (·.1)).Nodup) : (rws.map (·.1)).Nodup := by
  induction h with
  | nil => exact List.nodup_nil
  | @cons x r rws rows a t ih =>
    have kb' := fun r m => kb r (List.mem_cons_of_mem _ m)
    have hx := val_sc (kb _ (List.mem_cons_self ..)) a.1
    obtain ⟨e1, _⟩ := sc_val hx a.1
    rw [List.map_cons, List.nodup_cons] at nd ⊢
    refine ⟨fun m => nd.1 ?_, ih kb' nd.2⟩
    have h2 := link_some (k := x.1) hx t (RowsR.sck t kb')
    rw [← e1] at h2
    rw [← lkG_mem, ← h2, rowAt_mem]
    exact m
theorem lkG_put {rows : List (RV × RV)} {k v q : RV} (h : q ≠ k) : (lkG (putG rows k v) q).isSome = (lkG rows q).isSome := by
  have e : ∀ a b : Bool, (a = true ↔ b = true) → a = b := fun a b h => by cases a <;> cases b <;> simp_all
  refine e _ _ ?_
  rw [lkG_mem, lkG_mem, putG_keys]
  split
  · rfl
  · rw [List.mem_append, List.mem_singleton]
    exact ⟨fun z => z.elim id fun z => absurd z h, .inl⟩
theorem fresh_put {rows : List (RV × RV)} {k v : RV} : ∀ {oth : List (RV × RV)}, k ∉ oth.map (·.1) → freshN (putG rows k v) oth = freshN rows oth
  | [], _ => rfl
  | r :: t, h => by
    rw [List.map_cons, List.mem_cons, not_or] at h
    unfold freshN
    rw [List.filter_cons, List.filter_cons, lkG_put (Ne.symm h.1)]
    have ih := fresh_put (rows := rows) (v := v) h.2
    unfold freshN at ih
    split
    · rw [List.length_cons, List.length_cons, ih]
    · exact ih
theorem merge_len : ∀ {oth rows : List (RV × RV)}, (oth.map (·.1)).Nodup → (mergeG rows oth).length = rows.length + freshN rows oth
  | [], rows, _ => rfl
  | r :: t, rows, nd => by
    rw [List.map_cons, List.nodup_cons] at nd
    show (mergeG (putG rows r.1 r.2) t).length = _
    rw [merge_len nd.2, fresh_put nd.1, putG_len]
    have e : freshN rows (r :: t) = (if (lkG rows r.1).isSome = true then 0 else 1) + freshN rows t := by
      unfold freshN
      rw [List.filter_cons]
      cases (lkG rows r.1).isSome <;> simp <;> omega
    rw [e]
    split <;> omega
theorem fresh_take {rows oth : List (RV × RV)} (i : Nat) : freshN rows (oth.take i) ≤ freshN rows oth := by
  unfold freshN
  exact List.Sublist.length_le ((List.take_sublist i oth).filter _)
theorem merge_rn : ∀ {oth rows : List (RV × RV)}, RowsN rows → (oth.map (·.1)).Nodup → (∀ r ∈ oth, keyB r.1 = true) → (∀ r ∈ oth, NoB r.2) → (mergeG rows oth).length ≤ 1000 → RowsN (mergeG rows oth)
  | [], rows, h, _, _, _, _ => h
  | r :: t, rows, h, nd, kb, nb, hl => by
    rw [List.map_cons, List.nodup_cons] at nd
    have hl2 := hl
    rw [merge_len (by rw [List.map_cons, List.nodup_cons]; exact nd)] at hl2
    have e : freshN rows (r :: t) = (if (lkG rows r.1).isSome = true then 0 else 1) + freshN rows t := by
      unfold freshN
      rw [List.filter_cons]
      cases (lkG rows r.1).isSome <;> simp <;> omega
    show RowsN (mergeG (putG rows r.1 r.2) t)
    refine merge_rn (h.put (kb r (List.mem_cons_self ..)) (nb r (List.mem_cons_self ..)) ?_) nd.2 (fun q m => kb q (List.mem_cons_of_mem _ m)) (fun q m => nb q (List.mem_cons_of_mem _ m)) hl
    rw [putG_len]
    split
    · exact h.le
    · rename_i z
      rw [e, if_neg z] at hl2
      omega
theorem idx_neg {rows : List (RV × RV)} {k : RV} (nd : (rows.map (·.1)).Nodup) : (idxR rows k < 0) ↔ lkG rows k = none := by
  unfold idxR
  rcases caseG k nd with ⟨i, r', h1, h2, h3, h4, _⟩ | ⟨h3, h4, _⟩
  · rw [h3, h4]
    constructor
    · intro h
      have h : ((i : Nat) : Int) < 0 := h
      omega
    · intro h; cases h
  · rw [h3, h4]
    exact ⟨fun _ => rfl, fun _ => by decide⟩
abbrev LW2 (K : PySem.W.Frag) (w : World) (c : Cs) (H0 : Hp) (s sc : Addr) (ns : List Int) (x : SA) (S : SV) (R : Addr) (rows : List (RV × RV)) (O : Addr) (oth : List (RV × RV)) (H : Hp) : Prop := Wd K w c H0 s sc ns x S (fun H => GRows c R rows H ∧ GRows c O oth H) [R, O] H
theorem gm_rows2 {R O : Addr} {rows oth : List (RV × RV)} : ∀ H H', (GRows c R rows H ∧ GRows c O oth H) → HardStay c H H' → (∀ q ∈ [R, O], ∀ o, H q = some o → H' q = some o) → (GRows c R rows H' ∧ GRows c O oth H') := fun H H' ⟨h1, h2⟩ hs k => ⟨gm_rows H H' h1 hs fun q m => k q (by rw [List.mem_singleton.mp m]; simp), gm_rows H H' h2 hs fun q m => k q (by rw [List.mem_singleton.mp m]; simp)⟩
section
variable {H0 : Hp} {s sc : Addr} {ns : List Int} {x : SA} {S : SV} {R O : Addr} {rows rows' oth oth' : List (RV × RV)} {H H1 : Hp} {ts : List Addr}
theorem LW2.ne (W : LW2 K w c H0 s sc ns x S R rows O oth H) : R ≠ O := by
  have := (List.nodup_append.mp (List.nodup_cons.mp (Wd.nd W)).2).2.1
  simp at this
  exact this
theorem LW2.ownO (W : LW2 K w c H0 s sc ns x S R rows O oth H) (k : Keep [O] H H1) (e : H1 O = some (.lst (ts.map V.ref))) (hv : RowsO c H1 ts oth') : LW2 K w c H0 s sc ns x S R rows O oth' H1 := by
  obtain ⟨⟨us, e0, h0⟩, ⟨vs, e1, h1⟩⟩ := Wd.g W
  exact Wd.own W (by simp) k (soft_lst e1) ⟨_, e⟩ ⟨⟨us, k _ _ (by simpa using W.ne) e0, h0.hs (.keep k fun p m => by rw [List.mem_singleton.mp m]; exact soft_lst e1)⟩, ts, e, hv⟩ gm_rows2
theorem LW2.ownR (W : LW2 K w c H0 s sc ns x S R rows O oth H) (k : Keep [R] H H1) (e : H1 R = some (.lst (ts.map V.ref))) (hv : RowsO c H1 ts rows') : LW2 K w c H0 s sc ns x S R rows' O oth H1 := by
  obtain ⟨⟨us, e0, h0⟩, ⟨vs, e1, h1⟩⟩ := Wd.g W
  exact Wd.own W (by simp) k (soft_lst e0) ⟨_, e⟩ ⟨⟨ts, e, hv⟩, vs, k _ _ (by simpa using Ne.symm W.ne) e1, h1.hs (.keep k fun p m => by rw [List.mem_singleton.mp m]; exact soft_lst e0)⟩ gm_rows2
theorem LW2.one (W : LW2 K w c H0 s sc ns x S R rows O oth H) : LW K w c H0 s sc ns x S R rows H := Wd.adopt W (Wd.g W).1 gm_rows (fun q m => .inl (by rw [List.mem_singleton.mp m]; simp)) (by simp)
end
def spLMerged (K : PySem.W.Frag) (w : World) (c : Cs) : Sp := fun vs H Q _ => match vs with
  | [.ref y, .ref R, .ref s] => ∃ H0 sc ns x S rows, y = x.y ∧ LW K w c H0 s sc ns x S R rows H ∧ LI S rows ∧ S.things.length < 80000 ∧ Cont K w c H0 s sc ns y R (S.things.length + 1) Q
  | _ => False
def MrgI (K : PySem.W.Frag) (w : World) (c : Cs) (H0 : Hp) (s sc : Addr) (ns : List Int) (x : SA) (S : SV) (R : Addr) (rows : List (RV × RV)) (O : Addr) (i : Nat) (σ : L2.St) (H : Hp) : Prop := ∃ oth, LW2 K w c H0 s sc ns x S R rows O oth H ∧ RowsN oth ∧ oth.length ≤ i ∧ ∃ v4 v5 v6 v7 v8, σ = [some (.ref x.y), some (.ref R), some (.ref s), some (.ref O), v4, v5, v6, v7, v8]
def FrsI (H1 : Hp) (D : Addr) (rows oth : List (RV × RV)) (i : Nat) (H' : Hp) : Prop := Same H1 H' ∧ ∃ xs, H' D = some (.lst xs) ∧ xs.length = freshN rows (oth.take i)
def PutI (K : PySem.W.Frag) (w : World) (c : Cs) (H0 : Hp) (s sc : Addr) (ns : List Int) (x : SA) (S : SV) (R : Addr) (rows : List (RV × RV)) (O : Addr) (oth : List (RV × RV)) (H1 : Hp) (p5 p6 p7 : Addr) (i : Nat) (σ : L2.St) (H : Hp) : Prop := Keep [R] H1 H ∧ LW2 K w c H0 s sc ns x S R (mergeG rows (oth.take i)) O oth H ∧ ∃ v4 v8, σ = [some (.ref x.y), some (.ref R), some (.ref s), some (.ref O), v4, some (.ref p5), some (.ref p6), some (.ref p7), v8]
set_option maxHeartbeats 8000000 in
theorem ok_lmerged (A : At K mg "_law_merged" "_law_merged" s_law_merged ["store", "rows", "state"]) (T : Txt K mg c) (H_law_draw : Has P w K mg base CX0 "_law_draw" 2 ["state", "many"] (spDraw K)) (H_law_key : Has P w K mg base CX0 "_law_key" 4 ["state"] (spLKey K c)) (H_law_put : Has P w K mg base CX0 "_law_put" 3 ["rows", "key", "value"] (spLPut c)) (H_make_map : Has P w K mg base (L2.CX P w) "make_map" 5 ["store", "pairs"] (spMkMap w c)) (H_law_at : Has P w K mg base CX0 "_law_at" 2 ["rows", "key"] (spLAt c)) (H_law_try : Has P w K mg base CX0 "_law_try" 8 ["store", "deed", "name", "values"] (spLTry K w c)) (M_Table_pairs : HasM P w K mg base CX0 c.Table "pairs" 1 ["self"] (spPairs w c)) (H_law_pairs : Has P w K mg base CX0 "_law_pairs" 2 ["told", "rows"] (spLPairs c)) (H_law_is : Has P w K mg base CX0 "_law_is" 2 ["told", "value"] (spLIs c)) : Has P w K mg base CX0 "_law_merged" 9 ["store", "rows", "state"] (spLMerged K w c) := by
  have Sc := sc_law_merged
  refine has_of A Sc (fun vs H Q E h => ?_) (fun cdv f A outer s H vs Q E hr h => ?_)
  · unfold spLMerged at h; split at h; rfl; cases h
  · unfold spLMerged at h
    split at h
    · rename_i y R s
      obtain ⟨H0, sc, ns, x, S, rows, rfl, W, I, hl, h⟩ := h
      have hn := I.rn.le
      refine ⟨_, (pss_cons (ps_set (i := 3) Sc.nd rfl (.inl rfl) (fe_lst pa_nil))
      (pss_cons (ps_for PassesOwn.never rfl (pi_range1 (by rfl) T.no_range (pa_cons (fe_call H_law_draw (hr.mono (by walk_at "rm")) (by rfl) pass0 (pa_cons (fe_var 2) (pa_cons pe_int pa_nil))) pa_nil)) (pg_name (i := 4) Sc.nd rfl (.inl rfl)) (pss_one (ps_expr (fe_call H_law_put (hr.mono (by walk_at "rm")) (by rfl) pass0 (pa_cons (fe_var 3) (pa_cons (fe_call H_law_key (hr.mono (by walk_at "rm")) (by rfl) pass0 (pa_cons (fe_var 2) pa_nil)) (pa_cons (fe_call H_law_draw (hr.mono (by walk_at "rm")) (by rfl) pass0 (pa_cons (fe_var 2) (pa_cons pe_int pa_nil))) pa_nil)))))))
      (pss_cons (ps_set (i := 5) Sc.nd rfl (.inl rfl) (fe_callX H_make_map (hr.mono (by walk_at "rm")) (by rfl) takes0 (pa_cons (fe_var 0) (pa_cons (pe_callTy call_fListOf (by rfl) T.no_list (by decide +kernel) (pa_cons (fe_var 3) pa_nil)) pa_nil))))
      (pss_cons (ps_setLc (i := 6) (own := [("row", 8)]) (by rfl) Sc.nd rfl rfl (sw_true rfl rfl rfl (by decide +kernel)) (pi_list (fe_var 3)) (blkOk_by (own := [("row", 8)]) (N := ["store", "rows", "state", "others", "k", "ref", "fresh", "told", "row"]) (sc := defScope s_law_merged) (by decide +kernel)) (fun _ _ _ _ _ => (pg_name (i := 8) Sc.nd rfl (.inl rfl))) (fun _ _ _ _ _ => (pts_one (pt_cmpR op_fLt (fe_call H_law_at (hr.mono (by walk_at "rm")) (by rfl) pass0 (pa_cons (fe_var 1) (pa_cons (pe_ix (ix_fxK (K := K) rfl) (fe_var 8) pe_int (fun _ _ => rfl)) pa_nil))) pe_int (nomark _)))) (fun _ _ _ _ _ => (fe_var 8)))
      (pss_cons (ps_set (i := 7) Sc.nd rfl (.inl rfl) (fe_call H_law_try (hr.mono (by walk_at "rm")) (by rfl) pass0 (pa_cons (fe_var 0) (pa_cons pe_str (pa_cons pe_str (pa_cons (fe_lst (pa_cons (fe_var 5) pa_nil)) pa_nil))))))
      (pss_cons (ps_if (pt_not (pt_val (fe_call H_law_pairs (hr.mono (by walk_at "rm")) (by rfl) pass0 (pa_cons (fe_meth0 M_Table_pairs T.cl_Table (hr.mono (by walk_at "rm")) pass0 (pe_ix ix_fx (fe_fld (fe_var 0) T.pl_things rfl) (fe_fld (fe_var 5) T.pl_number rfl) (fun _ _ => rfl))) (pa_cons (fe_var 3) pa_nil))))) (pss_one (ps_ret pe_bl)) pss_nil)
      (pss_cons (ps_if (pt_cmpR op_fGt (pe_op op_fAdd (pe_callB call_fLen (by rfl) T.no_len (by decide +kernel) (pa_cons (fe_var 1) pa_nil)) (pe_callB call_fLen (by rfl) T.no_len (by decide +kernel) (pa_cons (fe_var 6) pa_nil))) pe_int (nomark _)) (pss_one (ps_ret (pe_cmpR (op_fEq hr.units) (fe_var 7) (fe_tup (pa_cons pe_str (pa_cons pe_str pa_nil))) (nomark _)))) pss_nil)
      (pss_cons (ps_for PassesOwn.never rfl (pi_list (fe_var 3)) (pg_name (i := 8) Sc.nd rfl (.inl rfl)) (pss_one (ps_expr (fe_call H_law_put (hr.mono (by walk_at "rm")) (by rfl) pass0 (pa_cons (fe_var 1) (pa_cons (pe_ix ix_fx (fe_var 8) pe_int (fun _ _ => rfl)) (pa_cons (pe_ix ix_fx (fe_var 8) pe_int (fun _ _ => rfl)) pa_nil)))))))
      (pss_one (ps_ret (fe_call H_law_is (hr.mono (by walk_at "rm")) (by rfl) pass0 (pa_cons (fe_var 7) (pa_cons pe_non pa_nil))))))))))))), ?_⟩
      walk_at "fx0"
      simp only [tSeq]
      walk_at "ox"
      intro O H1 nO s1 eO
      have W1 : LW2 K w c H0 s sc ns x S R rows O [] H1 := by
        have g0 := Wd.g W
        exact Wd.grow W (qs := [O]) s1 (fun q m => by rw [List.mem_singleton.mp m]; exact nO) (by simp) (fun q m => by rw [List.mem_singleton.mp m]; exact ⟨_, eO⟩) ⟨gm_rows _ _ g0 (.same s1) (fun q _ o e => s1 _ _ e), [], eO, .nil⟩ gm_rows2
      refine cut_ fun N hN => for_ ?_
      walk_at "ox"
      refine ⟨H0, sc, ns, W1.dr, by omega, by omega, fun H2 d2 k2 D2 d20 d21 => ?_⟩
      have W2 : LW2 K w c H0 s sc ns x S R rows O [] H2 := Wd.draw W1 k2 D2
      obtain ⟨m, rfl⟩ := Int.eq_ofNat_of_zero_le d20
      walk_at "ox"
      refine ⟨by omega, by omega, ?_⟩
      refine loop_range (MrgI K w c H0 s sc ns x S R rows O) ⟨[], W2, ⟨by simp, List.nodup_nil, (fun r m => by cases m), (fun r m => by cases m)⟩, by simp, _, _, _, _, _, rfl⟩ ?_ ?_
      · rintro i σ H3 hi ⟨oth, W3, rn, hlo, v4, v5, v6, v7, v8, rfl⟩
        walk_at "ox"
        refine ⟨H0, sc, ns, W3.dr, fun H4 k k4 D4 hk => ?_⟩
        have W4 : LW2 K w c H0 s sc ns x S R rows O oth H4 := Wd.draw W3 k4 D4
        walk_at "ox"
        refine ⟨H0, sc, ns, W4.dr, by omega, by omega, fun H5 d5 k5 D5 d50 d51 => ?_⟩
        have W5 : LW2 K w c H0 s sc ns x S R rows O oth H5 := Wd.draw W4 k5 D5
        obtain ⟨_, ts, eO5, hts⟩ := Wd.g W5
        have hsk := sc_val hk (rvOf_is (c := c) (H := H5) hk)
        walk_at "ox"
        refine ⟨ts, oth, rvOf k, .num d5, eO5, hts, rvOf_is hk, rfl, hsk.2, rn.kb, rn.nd, rn.le, fun H6 ts' k6 e6 h6 => ?_⟩
        have hl6 : (putG oth (rvOf k) (.num d5)).length ≤ i + 1 := by
          rw [putG_len]
          split <;> omega
        exact ⟨_, W5.ownO k6 e6 h6, rn.put hsk.2 (fun z e => by cases e) (by omega), hl6, _, _, _, _, _, rfl⟩
      · rintro σ H3 ⟨oth, W3, rn, hlo, v4, v5, v6, v7, v8, rfl⟩
        refine hN _ _ ?_
        clear hN N
        simp only [tSeq]
        obtain ⟨_, ts, eO3, hts⟩ := Wd.g W3
        walk_at "ox"
        refine ⟨_, rl_l eO3, fun l H4 nl s4 e4 => ?_⟩
        have W4 : LW2 K w c H0 s sc ns x S R rows O oth H4 := Wd.same W3 s4
        obtain ⟨rws, hT, hR⟩ := RowsO.split (RowsO.hs hts (.same s4))
        have hlr : rws.length = oth.length := Paired.length hR
        refine ⟨x, S, ts, rws, oth, rfl, Wd.st W4, e4, hT, RowsR.nd hR rn.kb rn.nd, RowsR.sck hR rn.kb, hR, by omega, by omega, ?_⟩
        intro rf a b H5 nrf nf k5 st5 hrf
        have W5 : LW2 K w c H0 s sc ns (x.add a b) (S.add (.table oth)) R rows O oth H5 := Wd.make W4 nf k5 st5
        refine cute_ fun N hN => ?_
        refine lc_ ?_
        walk_at "ox"
        obtain ⟨⟨us, eR5, hus⟩, ts5, eO5, hts5⟩ := Wd.g W5
        have hlu : us.length = rows.length := Paired.length hus
        have hlt : ts5.length = oth.length := Paired.length hts5
        refine ⟨⟨_, .inl (.inl eO5)⟩, fun D nD => ?_⟩
        refine lcx_list (xs := ts5.map V.ref) (FrsI H5 D rows oth) ⟨same_new nD, [], upd_same, by simp [freshN]⟩ (fun i H' _ ⟨s6, _⟩ => .inl (.inl (s6 _ _ eO5))) ?_ ?_
        · rintro i v H6 hx ⟨s6, xs, eD, hxl⟩
          rw [List.getElem?_map] at hx
          obtain ⟨t, et, rfl⟩ := Option.map_eq_some_iff.mp hx
          obtain ⟨r, er, k1, v1, e1, g1, g2⟩ := paired_get hts5 et
          walk_at "ox"
          refine ⟨_, rl_t (s6 _ _ e1), _, rfl, us, rows, r.1, s6 _ _ eR5, RowsO.hs hus (.same s6), g1.same s6, rn.kb r (List.mem_of_getElem? er), I.rn.kb, hn, ?_⟩
          walk_at "ox"
          have hi := (List.getElem?_eq_some_iff.mp er).1
          have e9 : freshN rows (oth.take (i + 1)) = freshN rows (oth.take i) + if lkG rows r.1 = none then 1 else 0 := by
            unfold freshN
            rw [take_getG er, List.filter_append, List.length_append, List.filter_cons, List.filter_nil]
            cases lkG rows r.1 <;> rfl
          have hfl : freshN rows (oth.take i) ≤ i := Nat.le_trans (List.length_filter_le _ _) (by rw [List.length_take]; omega)
          split
          · rename_i z
            rw [idx_neg I.rn.nd] at z
            rw [if_pos z] at e9
            refine ⟨_, eD, by rw [sizeLine_eq]; omega, mk_same s6 nD, _, upd_same, ?_⟩
            rw [List.length_append, hxl, e9]; rfl
          · rename_i z
            rw [idx_neg I.rn.nd] at z
            rw [if_neg z] at e9
            exact ⟨s6, xs, eD, by rw [hxl, e9]; rfl⟩
        · rintro H6 ⟨s6, xs, eD, hxl⟩
          rw [List.length_map, hlt, List.take_length] at hxl
          refine hN _ _ ?_
          clear hN N
          have W6 : LW2 K w c H0 s sc ns (x.add a b) (S.add (.table oth)) R rows O oth H6 := Wd.same W5 s6
          walk_at "ox"
          intro l2 H7 nl2 s7 e7
          have W7 : LW2 K w c H0 s sc ns (x.add a b) (S.add (.table oth)) R rows O oth H7 := Wd.same W6 s7
          have hrf7 := (hrf.same s6).same s7
          have hlS : (S.add (.table oth)).things.length = S.things.length + 1 := by simp [SV.add]
          have it7 : LI (S.add (.table oth)) rows := ⟨by
            show (S.things ++ [_])[1]? = _
            rw [List.getElem?_append_left I.two, I.it], I.rn⟩
          have em : (S.add (.table oth)).things[S.things.length]? = some (.table oth) := by simp [SV.add]
          have h2 := I.two
          refine try_call (x := x.add a b) (op := .merge S.things.length oth) (Wd.st W7) it7 (by omega) e7 (ks := ["map"]) (show MK.lookup ("merge" : Str) = _ by decide +kernel) (.cons ⟨rf, rfl, hrf7⟩ .nil) (fun q m => by
            rw [List.mem_singleton.mp m]
            intro n e
            cases e
            rw [hlS]; omega) rfl (by decide) (by simp [MOp.args, fitsK, fitK_map em]) ⟨by omega, em, rn.le⟩ ?_
          simp only [doM]
          have hst : ∀ {S' : SV} {H8 : Hp}, LW2 K w c H0 s sc ns (x.add a b) S' R rows O oth H8 → ∃ sdx, H8 x.y = some (.ins c.Store sdx [("things", .ref (x.add a b).tl), ("output", .ref (x.add a b).ol), ("lines", .ref (x.add a b).ll), ("taken", .int (S'.taken : Nat))]) := fun W8 => (Wd.st W8).st
          by_cases hbig : 1000 < rows.length + freshN rows oth
          · rw [if_pos hbig]
            refine outS_catch fun p7 H8 np7 s8 ep7 => ?_
            have W8 : LW2 K w c H0 s sc ns (x.add a b) (S.add (.table oth)) R rows O oth H8 := Wd.same W7 s8
            obtain ⟨sdx, es⟩ := hst W8
            obtain ⟨rdx, er⟩ := hrf7.same s8
            obtain ⟨a1, b1, h1, ⟨d1, rws1, rfl, ⟨dx1, ea1⟩, ht1, hr1⟩, h3⟩ := (Wd.st W8).num em
            walk_at "ox"
            refine cut_ fun N hN => ifs_ ?_
            repeat (first | walk_at "oxs" | simp only [es] | simp only [er])
            refine ⟨_, rl_l (Wd.st W8).et, _, h3, ?_⟩
            simp only [ea1]
            walk_at "ox"
            refine ⟨d1, rws1, ⟨dx1, ea1⟩, ht1, by rw [show rws1.length = oth.length from Paired.length hr1]; have := rn.le; omega, fun p8 ts8 H9 np8 s9 ep8 hts8 => ?_⟩
            have W9 : LW2 K w c H0 s sc ns (x.add a b) (S.add (.table oth)) R rows O oth H9 := Wd.same W8 s9
            obtain ⟨⟨us9, eR9, hus9⟩, ts9, eO9, hts9⟩ := Wd.g W9
            refine ⟨ts8, ts9, oth, ep8, eO9, RowsO.of hts8 (RowsR.hs hr1 (.same s9)), hts9, rn, ?_⟩
            repeat (walk_at "oxs")
            refine hN _ _ ?_
            clear hN N
            walk_at "ox"
            refine cut_ fun N hN => ifs_ ?_
            walk_at "ox"
            have eD9 := s9 _ _ (s8 _ _ (s7 _ _ eD))
            refine ⟨_, rl_l eR9, _, rl_l eD9, ?_⟩
            rw [List.length_map, show us9.length = rows.length from Paired.length hus9, hxl, if_pos (by omega)]
            intro p10 H10 np10 s10 ep10
            refine ⟨_, .tup (.inl (.inl (s10 _ _ (s9 _ _ ep7)))) (dpAll_sc rfl), _, .tup (.inl (.inl ep10)) (dpAll_sc rfl), tup_okd rfl, tup_okd rfl, ?_⟩
            rw [tup_eqv rfl]
            exact h H10 _ _ rows (LW2.one (Wd.same W9 s10)) it7 rfl (by omega)
          · rw [if_neg hbig]
            intro v7 d7 H8 k8 hd8 so8 st8 hv7 p7 H9 np7 s9 ep7
            cases hv7
            have W8 : LW2 K w c H0 s sc ns (x.add a b) ((S.add (.table oth)).setT 1 (.table (mergeG rows oth))) R rows O oth H8 := Wd.set W7 hd8 k8 so8 st8
            have W9 : LW2 K w c H0 s sc ns (x.add a b) ((S.add (.table oth)).setT 1 (.table (mergeG rows oth))) R rows O oth H9 := Wd.same W8 s9
            have hs79 : HardStay c H7 H9 := (HardStay.keep k8 fun p m => by rw [List.mem_singleton.mp m]; exact so8).trans (.same s9)
            have em9 : ((S.add (.table oth)).setT 1 (.table (mergeG rows oth))).things[S.things.length]? = some (.table oth) := by
              show ((S.add (.table oth)).things.set 1 _)[S.things.length]? = _
              rw [List.getElem?_set, if_neg (by omega), em]
            have hml := merge_len (rows := rows) rn.nd
            obtain ⟨sdx, es⟩ := hst W9
            obtain ⟨rdx, er⟩ := hrf7.hs hs79
            obtain ⟨a1, b1, h1, ⟨d1, rws1, rfl, ⟨dx1, ea1⟩, ht1, hr1⟩, h3⟩ := (Wd.st W9).num em9
            walk_at "ox"
            refine cut_ fun N hN => ifs_ ?_
            repeat (first | walk_at "oxs" | simp only [es] | simp only [er])
            refine ⟨_, rl_l (Wd.st W9).et, _, h3, ?_⟩
            simp only [ea1]
            walk_at "ox"
            refine ⟨d1, rws1, ⟨dx1, ea1⟩, ht1, by rw [show rws1.length = oth.length from Paired.length hr1]; have := rn.le; omega, fun p8 ts8 H10 np8 s10 ep8 hts8 => ?_⟩
            have W10 : LW2 K w c H0 s sc ns (x.add a b) ((S.add (.table oth)).setT 1 (.table (mergeG rows oth))) R rows O oth H10 := Wd.same W9 s10
            obtain ⟨⟨us9, eR9, hus9⟩, ts9, eO9, hts9⟩ := Wd.g W10
            refine ⟨ts8, ts9, oth, ep8, eO9, RowsO.of hts8 (RowsR.hs hr1 (.same s10)), hts9, rn, ?_⟩
            repeat (walk_at "oxs")
            refine hN _ _ ?_
            clear hN N
            walk_at "ox"
            refine cut_ fun N hN => ifs_ ?_
            walk_at "ox"
            have nD7 : D ≠ d7 := fun z => by
              have hd : D ∈ (x.add a b).foot := by rw [z]; exact hd8
              obtain ⟨o, eo⟩ := (Wd.st W5).live D hd
              rw [nD] at eo; cases eo
            have eD10 := s10 _ _ (s9 _ _ (k8 _ _ (by simpa using nD7) (s7 _ _ eD)))
            refine ⟨_, rl_l eR9, _, rl_l eD10, ?_⟩
            rw [List.length_map, show us9.length = rows.length from Paired.length hus9, hxl, if_neg (by omega)]
            refine hN _ _ ?_
            clear hN N
            walk_at "ox"
            refine cut_ fun N hN => for_ ?_
            walk_at "ox"
            refine ⟨⟨_, .inl (.inl eO9)⟩, ?_⟩
            have neRO := W10.ne
            refine loop_list (ts9.map V.ref) (PutI K w c H0 s sc ns (x.add a b) ((S.add (.table oth)).setT 1 (.table (mergeG rows oth))) R rows O oth H10 rf D p7) ⟨Keep.refl, by rw [List.take_zero]; exact W10, _, _, rfl⟩ (fun i σ H' _ ⟨k, _⟩ => .inl (.inl (k _ _ (by simpa using Ne.symm neRO) eO9))) ?_ ?_
            · rintro i v σ H11 hx ⟨k11, W11, v4, v8, rfl⟩
              rw [List.getElem?_map] at hx
              obtain ⟨t, et, rfl⟩ := Option.map_eq_some_iff.mp hx
              obtain ⟨r, er1, q1, v1, e1, g1, g2⟩ := paired_get hts9 et
              have hs11 : HardStay c H10 H11 := .keep k11 fun p m => by rw [List.mem_singleton.mp m]; exact soft_lst eR9
              have e11 := hs11 _ _ e1 (Hard.t _)
              obtain ⟨⟨us11, eR11, hus11⟩, _⟩ := Wd.g W11
              have hi := (List.getElem?_eq_some_iff.mp er1).1
              have ndt : ((oth.take i).map (·.1)).Nodup := ((List.take_sublist _ _).map _).nodup rn.nd
              have hmt := merge_len (rows := rows) ndt
              have hft := fresh_take (rows := rows) (oth := oth) i
              have rni := merge_rn I.rn ndt (fun q m => rn.kb q (List.mem_of_mem_take m)) (fun q m => rn.nb q (List.mem_of_mem_take m)) (by omega)
              walk_at "ox"
              refine ⟨_, rl_t e11, _, rfl, _, rl_t e11, _, rfl, us11, _, r.1, r.2, eR11, hus11, g1.hs hs11, g2.hs hs11, rn.kb r (List.mem_of_getElem? er1), rni.kb, rni.nd, rni.le, fun H12 ts' k12 e12 h12 => ?_⟩
              refine ⟨k11.trans k12, ?_, _, _, rfl⟩
              have e13 : mergeG rows (oth.take (i + 1)) = putG (mergeG rows (oth.take i)) r.1 r.2 := by
                unfold mergeG
                rw [take_getG er1, List.foldl_append]
                rfl
              rw [e13]
              exact W11.ownR k12 e12 h12
            · rintro σ H11 ⟨k11, W11, v4, v8, rfl⟩
              rw [List.length_map, show ts9.length = oth.length from Paired.length hts9, List.take_length] at W11
              have hs11 : HardStay c H10 H11 := .keep k11 fun p m => by rw [List.mem_singleton.mp m]; exact soft_lst eR9
              refine hN _ _ ?_
              walk_at "ox"
              refine ⟨.non, .nul, hs11 _ _ (s10 _ _ ep7) (Hard.t _), rfl, rfl, (fun z e => by cases e), ?_⟩
              exact h H11 _ _ (mergeG rows oth) (LW2.one W11) (it7.set (merge_rn I.rn rn.nd rn.kb rn.nb (by omega))) rfl (by rw [setT_len]; omega)
    · cases h
end

section
variable {P : Program} {w : World} {K : PySem.W.Frag} {mg : Str → Option Value} {base : Heap} {c : Cs}
theorem fitK_bad {S : SV} {r : RV} (h : keyB r = false) : fitK S r "key" = false := by
  unfold fitK
  rw [if_pos rfl]
  have kt : ∀ t : Th, inV (.str (kindT t)) [.str "null", .str "boolean", .str "integer", .str "text"] = false := fun t => by cases t <;> (simp only [kindT]; decide)
  cases r <;> first
    | (cases h; done)
    | (simp only [kindR]; decide)
    | (show inV (.str (match S.things[_]? with | some t => kindT t | none => "function")) _ = false
       split
       · exact kt _
       · decide)
theorem atI_end {xs : List V} {n : Nat} {v : V} (hl : xs.length = n + 1) (h : atI xs (n : Nat) = some v) : atI xs (-1) = some v := by
  have h2 : xs[n]? = some v := by
    have h3 : xs[n]? = some (xs[n]'(by omega)) := List.getElem?_eq_getElem _
    rw [atI_nat h3] at h
    rw [h3, h]
  have e : xs = xs.take n ++ [v] := by
    have := take_getG h2
    rw [← this, List.take_of_length_le (by omega)]
  rw [e]
  exact atI_last _ _
def spLStep (K : PySem.W.Frag) (w : World) (c : Cs) : Sp := fun vs H Q _ => match vs with
  | [.ref y, .ref R, .ref s] => ∃ H0 sc ns x S rows, y = x.y ∧ LW K w c H0 s sc ns x S R rows H ∧ LI S rows ∧ S.things.length < 70000 ∧ Cont K w c H0 s sc ns y R (S.things.length + 110) Q
  | _ => False
theorem Cont.le {H0 : Hp} {s sc : Addr} {ns : List Int} {y R : Addr} {n m : Nat} {Q : VK} (h : Cont K w c H0 s sc ns y R m Q) (hn : n ≤ m) : Cont K w c H0 s sc ns y R n Q := fun H1 x' S' rows' W I hy hl => h H1 x' S' rows' W I hy (Nat.le_trans hl hn)
theorem n_s {H0 H : Hp} {s sc : Addr} {ns : List Int} {x : SA} {S : SV} {R : Addr} {rows : List (RV × RV)} (W : LW K w c H0 s sc ns x S R rows H) {p : Addr} (np : H p = none) : p ≠ s := fun z => by
  obtain ⟨o, eo⟩ := Wd.live W (q := s) (by simp)
  rw [z, eo] at np; cases np
theorem one2 : (("has" : Str) == "remove") = false ∧ ¬ (("has" : Str) = "remove") ∧ (("has" : Str) == "merge") = false ∧ ¬ (("has" : Str) = "merge") ∧ (("remove" : Str) == "has") = false ∧ ¬ (("remove" : Str) = "has") ∧ (("remove" : Str) == "merge") = false ∧ ¬ (("remove" : Str) = "merge") ∧ (("merge" : Str) == "has") = false ∧ ¬ (("merge" : Str) = "has") ∧ (("merge" : Str) == "remove") = false ∧ ¬ (("merge" : Str) = "remove") := by (repeat' apply And.intro) <;> decide +kernel
set_option maxHeartbeats 16000000 in
theorem ok_lstep (A : At K mg "_law_step" "_law_step" s_law_step ["store", "rows", "state"]) (T : Txt K mg c) (H_law_draw : Has P w K mg base CX0 "_law_draw" 2 ["state", "many"] (spDraw K)) (H_law_key : Has P w K mg base CX0 "_law_key" 4 ["state"] (spLKey K c)) (H_law_pick : Has P w K mg base CX0 "_law_pick" 3 ["state", "row"] (spPick2 K)) (M_Ref : HasC P w K mg base CX0 c.Ref "Ref" 1 ["self", "number"] (spMk_Ref K c)) (M_Builtin : HasC P w K mg base CX0 c.Builtin "Builtin" 1 ["self", "name"] (spMk_Builtin K c)) (H_law_set : Has P w K mg base CX0 "_law_set" 9 ["store", "rows", "key", "value"] (spLSet K w c)) (H_law_taken : Has P w K mg base CX0 "_law_taken" 9 ["store", "rows", "key"] (spLTaken K w c)) (H_law_read : Has P w K mg base CX0 "_law_read" 9 ["store", "rows", "key", "value"] (spLRead K w c)) (H_law_listed : Has P w K mg base CX0 "_law_listed" 9 ["store", "rows"] (spLListed K w c)) (H_law_merged : Has P w K mg base CX0 "_law_merged" 9 ["store", "rows", "state"] (spLMerged K w c)) (H_law_try : Has P w K mg base CX0 "_law_try" 8 ["store", "deed", "name", "values"] (spLTry K w c)) (H_law_is : Has P w K mg base CX0 "_law_is" 2 ["told", "value"] (spLIs c)) (M_Table_pairs : HasM P w K mg base CX0 c.Table "pairs" 1 ["self"] (spPairs w c)) (H_law_pairs : Has P w K mg base CX0 "_law_pairs" 2 ["told", "rows"] (spLPairs c)) : Has P w K mg base CX0 "_law_step" 10 ["store", "rows", "state"] (spLStep K w c) := by
  have Sc := sc_law_step
  refine has_of A Sc (fun vs H Q E h => ?_) (fun cdv f A outer s H vs Q E hr h => ?_)
  · unfold spLStep at h; split at h; rfl; cases h
  · unfold spLStep at h
    split at h
    · rename_i y R s
      obtain ⟨H0, sc, ns, x, S, rows, rfl, W, I, hl, h⟩ := h
      have hn := I.rn.le
      have h2 := I.two
      refine ⟨_, (pss_cons (ps_set (i := 3) Sc.nd rfl (.inl rfl) (fe_call H_law_draw (hr.mono (by walk_at "rm")) (by rfl) pass0 (pa_cons (fe_var 2) (pa_cons pe_int pa_nil))))
      (pss_cons (ps_set (i := 4) Sc.nd rfl (.inl rfl) (fe_call H_law_key (hr.mono (by walk_at "rm")) (by rfl) pass0 (pa_cons (fe_var 2) pa_nil)))
      (pss_cons (ps_set (i := 5) Sc.nd rfl (.inl rfl) (fe_call H_law_pick (hr.mono (by walk_at "rm")) (by rfl) pass0 (pa_cons (fe_var 2) (pa_cons (fe_tup (pa_cons pe_non (pa_cons pe_int (pa_cons pe_str (pa_cons (fe_make (k := _) M_Ref (hr.mono (by walk_at "rm")) (by rfl) pass0 (pa_cons pe_int pa_nil)) (pa_cons pe_bl pa_nil)))))) pa_nil))))
      (pss_cons (ps_if (pt_cmpR op_fLt (fe_var 3) pe_int (nomark _)) (pss_one (ps_ret (fe_call H_law_set (hr.mono (by walk_at "rm")) (by rfl) pass0 (pa_cons (fe_var 0) (pa_cons (fe_var 1) (pa_cons (fe_var 4) (pa_cons (fe_var 5) pa_nil))))))) pss_nil)
      (pss_cons (ps_if (pt_cmpR (op_fEq hr.units) (fe_var 3) pe_int (nomark _)) (pss_one (ps_ret (fe_call H_law_taken (hr.mono (by walk_at "rm")) (by rfl) pass0 (pa_cons (fe_var 0) (pa_cons (fe_var 1) (pa_cons (fe_var 4) pa_nil)))))) pss_nil)
      (pss_cons (ps_if (pt_cmpR (op_fEq hr.units) (fe_var 3) pe_int (nomark _)) (pss_one (ps_ret (fe_call H_law_read (hr.mono (by walk_at "rm")) (by rfl) pass0 (pa_cons (fe_var 0) (pa_cons (fe_var 1) (pa_cons (fe_var 4) (pa_cons (fe_var 5) pa_nil))))))) pss_nil)
      (pss_cons (ps_if (pt_cmpR (op_fEq hr.units) (fe_var 3) pe_int (nomark _)) (pss_one (ps_ret (pe_or (pe_cmpR op_fGt (pe_callB call_fLen (by rfl) T.no_len (by decide +kernel) (pa_cons (fe_var 1) pa_nil)) pe_int (nomark _)) (pe_one (fe_call H_law_listed (hr.mono (by walk_at "rm")) (by rfl) pass0 (pa_cons (fe_var 0) (pa_cons (fe_var 1) pa_nil))))))) pss_nil)
      (pss_cons (ps_if (pt_cmpR (op_fEq hr.units) (fe_var 3) pe_int (nomark _)) (pss_one (ps_ret (fe_call H_law_merged (hr.mono (by walk_at "rm")) (by rfl) pass0 (pa_cons (fe_var 0) (pa_cons (fe_var 1) (pa_cons (fe_var 2) pa_nil)))))) pss_nil)
      (pss_cons (ps_if (pt_cmpR (op_fEq hr.units) (fe_var 3) pe_int (nomark _)) (pss_cons (ps_set (i := 6) Sc.nd rfl (.inl rfl) (fe_call H_law_try (hr.mono (by walk_at "rm")) (by rfl) pass0 (pa_cons (fe_var 0) (pa_cons pe_str (pa_cons pe_str (pa_cons (fe_lst pa_nil) pa_nil))))))
      (pss_one (ps_ret (pe_and (fe_call H_law_is (hr.mono (by walk_at "rm")) (by rfl) pass0 (pa_cons (fe_var 6) (pa_cons (fe_make (k := _) M_Ref (hr.mono (by walk_at "rm")) (by rfl) pass0 (pa_cons (pe_op op_fSub (pe_callB call_fLen (by rfl) T.no_len (by decide +kernel) (pa_cons (fe_fld (fe_var 0) T.pl_things rfl) pa_nil)) pe_int) pa_nil)) pa_nil))) (pe_one (fe_call H_law_pairs (hr.mono (by walk_at "rm")) (by rfl) pass0 (pa_cons (fe_meth0 M_Table_pairs T.cl_Table (hr.mono (by walk_at "rm")) pass0 (pe_ix ix_fx (fe_fld (fe_var 0) T.pl_things rfl) (pe_un un_fNeg pe_int) (fun _ _ => rfl))) (pa_cons (fe_var 1) pa_nil)))))))) pss_nil)
      (pss_cons (ps_if (pt_cmpR (op_fEq hr.units) (fe_var 3) pe_int (nomark _)) (pss_cons (ps_set (i := 7) Sc.nd rfl (.inl rfl) (fe_call H_law_pick (hr.mono (by walk_at "rm")) (by rfl) pass0 (pa_cons (fe_var 2) (pa_cons (fe_tup (pa_cons (fe_make (k := _) M_Ref (hr.mono (by walk_at "rm")) (by rfl) pass0 (pa_cons pe_int pa_nil)) (pa_cons (fe_make (k := _) M_Ref (hr.mono (by walk_at "rm")) (by rfl) pass0 (pa_cons pe_int pa_nil)) (pa_cons (fe_make (k := _) M_Builtin (hr.mono (by walk_at "rm")) (by rfl) pass0 (pa_cons pe_str pa_nil)) pa_nil)))) pa_nil))))
      (pss_cons (ps_set (i := 8) Sc.nd rfl (.inl rfl) (fe_tup (pa_cons pe_str (pa_cons pe_str pa_nil))))
      (pss_cons (ps_if (PW.pt (pw_or (pt_cmpR (op_fNe hr.units) (fe_call H_law_try (hr.mono (by walk_at "rm")) (by rfl) pass0 (pa_cons (fe_var 0) (pa_cons pe_str (pa_cons pe_str (pa_cons (fe_lst (pa_cons (fe_var 7) pa_nil)) pa_nil))))) (fe_var 8) (nomark _)) (pw_or1 (pt_cmpR (op_fNe hr.units) (fe_call H_law_try (hr.mono (by walk_at "rm")) (by rfl) pass0 (pa_cons (fe_var 0) (pa_cons pe_str (pa_cons pe_str (pa_cons (fe_lst (pa_cons (fe_var 7) (pa_cons pe_int pa_nil))) pa_nil))))) (fe_var 8) (nomark _))))) (pss_one (ps_ret pe_bl)) pss_nil)
      (pss_cons (ps_set (i := 9) Sc.nd rfl (.inl rfl) (fe_call H_law_pick (hr.mono (by walk_at "rm")) (by rfl) pass0 (pa_cons (fe_var 2) (pa_cons (fe_tup (pa_cons pe_str (pa_cons pe_str (pa_cons pe_str pa_nil)))) pa_nil))))
      (pss_one (ps_ret (pe_cmpR (op_fEq hr.units) (fe_call H_law_try (hr.mono (by walk_at "rm")) (by rfl) pass0 (pa_cons (fe_var 0) (pa_cons pe_str (pa_cons (fe_var 9) (pa_cons (fe_lst (pa_cons (pe_ifExp (pt_cmpR (op_fNe hr.units) (fe_var 9) pe_str (nomark _)) (fe_var 7) pe_int) pa_nil)) pa_nil))))) (fe_tup (pa_cons pe_str (pa_cons pe_str pa_nil))) (nomark _)))))))) pss_nil)
      (pss_cons (ps_if (pt_cmpR op_fGt (fe_call H_law_draw (hr.mono (by walk_at "rm")) (by rfl) pass0 (pa_cons (fe_var 2) (pa_cons pe_int pa_nil))) pe_int (nomark _)) (pss_one (ps_ret (fe_call H_law_is (hr.mono (by walk_at "rm")) (by rfl) pass0 (pa_cons (fe_call H_law_try (hr.mono (by walk_at "rm")) (by rfl) pass0 (pa_cons (fe_var 0) (pa_cons pe_str (pa_cons pe_str (pa_cons (fe_lst pa_nil) pa_nil))))) (pa_cons (pe_callB call_fLen (by rfl) T.no_len (by decide +kernel) (pa_cons (fe_var 1) pa_nil)) pa_nil))))) pss_nil)
      (pss_cons (ps_expr (fe_bm0 PySem.F.plainAttrs_list PySem.F.slot_list_clear PySem.F.type_list_clear isLst_ty mt_fClear (fe_var 1)))
      (pss_one (ps_ret (fe_call H_law_is (hr.mono (by walk_at "rm")) (by rfl) pass0 (pa_cons (fe_call H_law_try (hr.mono (by walk_at "rm")) (by rfl) pass0 (pa_cons (fe_var 0) (pa_cons pe_str (pa_cons pe_str (pa_cons (fe_lst pa_nil) pa_nil))))) (pa_cons pe_non pa_nil))))))))))))))))), ?_⟩
      walk_at "fx0"
      simp only [tSeq]
      refine cut_ fun N hN => ?_
      walk_at "ox"
      refine ⟨H0, sc, ns, W.dr, by omega, by omega, fun H1 d1 k1 D1 d10 d11 => ?_⟩
      have W1 : LW K w c H0 s sc ns x S R rows H1 := Wd.draw W k1 D1
      refine hN _ _ ?_
      clear hN N
      simp only [tSeq]
      refine cut_ fun N hN => ?_
      walk_at "ox"
      refine ⟨H0, sc, ns, W1.dr, fun H2 k k2 D2 hk => ?_⟩
      have W2 : LW K w c H0 s sc ns x S R rows H2 := Wd.draw W1 k2 D2
      refine hN _ _ ?_
      clear hN N
      simp only [tSeq]
      refine cut_ fun N hN => ?_
      walk_at "ox"
      unfold spMk_Ref
      intro r0 rdx0 H3 nr0 s3 er0 tp H4 ntp s4 etp
      have W4 := Wd.same W2 (s3.trans s4)
      refine ⟨H0, sc, ns, _, W4.dr, fun H5 k5 => rl_t (k5 _ _ (by simpa using n_s (Wd.same W2 s3) ntp) etp), by simp, by simp, fun H5 v k5 D5 hv => ?_⟩
      have W5 : LW K w c H0 s sc ns x S R rows H5 := Wd.draw W4 k5 D5
      have er05 : IsRef c H5 r0 (0 : Nat) := ⟨rdx0, k5 _ _ (by simpa using n_s W2 nr0) (s4 _ _ er0)⟩
      have hv5 : ∃ q, IsVal c H5 v q ∧ NoB q ∧ WfR S q := by
        simp only [List.mem_cons, List.not_mem_nil, or_false] at hv
        rcases hv with rfl | rfl | rfl | rfl | rfl
        · exact ⟨.nul, rfl, (fun z e => by cases e), fun n e => by cases e⟩
        · exact ⟨.num 5, rfl, (fun z e => by cases e), fun n e => by cases e⟩
        · exact ⟨.txt "x", rfl, (fun z e => by cases e), fun n e => by cases e⟩
        · exact ⟨.ob 0, ⟨r0, rfl, er05⟩, (fun z e => by cases e), fun n e => by cases e; omega⟩
        · exact ⟨.boo false, rfl, (fun z e => by cases e), fun n e => by cases e⟩
      obtain ⟨q, hvq, hqn, hqw⟩ := hv5
      have hkR : IsVal c H5 k (rvOf k) := rvOf_is hk
      have hkb := (sc_val hk hkR).2
      refine hN _ _ ?_
      clear hN N hv W W1 W2 W4 k1 k2 k5 D1 D2 D5 etp er0 er05 s3 s4 nr0 ntp
      simp only [tSeq]
      refine cut_ fun N hN => ifs_ ?_
      walk_at "ox"
      by_cases hk4 : d1 < 4
      · rw [if_pos hk4]
        exact ⟨H0, s, sc, ns, x, S, rows, rvOf k, q, rfl, W5, I, by omega, hkR, hkb, hvq, hqn, hqw, h.le (by omega)⟩
      rw [if_neg hk4]
      refine hN _ _ ?_
      clear hN N
      simp only [tSeq]
      refine cut_ fun N hN => ifs_ ?_
      walk_at "ox"
      by_cases hk5 : d1 = 4
      · rw [if_pos hk5]
        exact ⟨H0, s, sc, ns, x, S, rows, rvOf k, rfl, W5, I, by omega, hkR, hkb, h.le (by omega)⟩
      rw [if_neg hk5]
      refine hN _ _ ?_
      clear hN N
      simp only [tSeq]
      refine cut_ fun N hN => ifs_ ?_
      walk_at "ox"
      by_cases hk6 : d1 = 5
      · rw [if_pos hk6]
        exact ⟨H0, s, sc, ns, x, S, rows, rvOf k, q, rfl, W5, I, by omega, hkR, hkb, hvq, hqn, hqw, h.le (by omega)⟩
      rw [if_neg hk6]
      refine hN _ _ ?_
      clear hN N
      simp only [tSeq]
      refine cut_ fun N hN => ifs_ ?_
      walk_at "ox"
      by_cases hk7 : d1 = 6
      · rw [if_pos hk7]
        obtain ⟨ts, el, hts⟩ := Wd.g W5
        have hle : ts.length = rows.length := Paired.length hts
        walk_at "ox"
        refine ⟨_, rl_l el, ?_⟩
        rw [List.length_map, hle]
        by_cases hb : 100 < rows.length
        · have hb' : (100 : Int) < ((rows.length : Nat) : Int) := by omega
          simp only [hb', decide_true]
          exact h H5 x S rows W5 I rfl (by omega)
        · have hb' : ¬ (100 : Int) < ((rows.length : Nat) : Int) := by omega
          simp only [hb', decide_false]
          exact ⟨H0, s, sc, ns, x, S, rows, rfl, W5, I, by omega, by omega, h.le (by omega)⟩
      rw [if_neg hk7]
      refine hN _ _ ?_
      clear hN N
      simp only [tSeq]
      refine cut_ fun N hN => ifs_ ?_
      walk_at "ox"
      by_cases hk8 : d1 = 7
      · rw [if_pos hk8]
        exact ⟨H0, sc, ns, x, S, rows, rfl, W5, I, by omega, h.le (by omega)⟩
      rw [if_neg hk8]
      refine hN _ _ ?_
      clear hN N
      simp only [tSeq]
      refine cut_ fun N hN => ifs_ ?_
      walk_at "ox"
      by_cases hk9 : d1 = 8
      · rw [if_pos hk9]
        intro l H6 nl s6 e6
        have W6 := Wd.same W5 s6
        refine try_call (op := .copy) (Wd.st W6) I (by omega) e6 (ks := []) (show MK.lookup ("copy" : Str) = _ by decide +kernel) .nil (fun q m => by cases m) rfl (by decide) (by simp [MOp.args, fitsK]) trivial ?_
        intro v1 x1 H7 k7 st7 hf7 hy1 ht1 hv1 p1 H8 np1 s8 ep1
        rw [show S.things.length + [Th.table rows].length - 1 = S.things.length from by simp] at hv1
        have W8 := Wd.same (made_W W6 k7 st7 hf7) s8
        have em : (S.adds [Th.table rows]).things[S.things.length]? = some (.table rows) := by simp [SV.adds]
        have hlS : (S.adds [Th.table rows]).things.length = S.things.length + 1 := by simp [SV.adds]
        obtain ⟨sdx, es⟩ := (Wd.st W8).st
        have hlL : x1.L.length = S.things.length + 1 := by rw [← hlS]; exact Paired.length (Wd.st W8).th
        rw [← hy1]
        walk_at "ox"
        simp only [es]
        walk_at "ox"
        refine ⟨_, rl_l (Wd.st W8).et, ?_⟩
        rw [List.length_map, hlL]
        unfold spMk_Ref
        intro r2 rdx2 H9 nr2 s9 er2
        refine ⟨v1, .ob S.things.length, s9 _ _ ep1, (hv1.same s8).same s9, ⟨r2, rfl, rdx2, ?_⟩, (fun z e => by cases e), ?_⟩
        · rw [er2]
          have : (((S.things.length + 1 : Nat) : Int) - 1) = ((S.things.length : Nat) : Int) := by omega
          rw [this]
        have W9 := Wd.same W8 s9
        have es9 := s9 _ _ es
        obtain ⟨a1, b1, g1, ⟨d2, rws2, rfl, ⟨dx2, ea2⟩, ht2, hr2⟩, g3⟩ := (Wd.st W9).num em
        walk_at "ox"
        simp only [es9]
        walk_at "ox"
        refine ⟨_, rl_l (Wd.st W9).et, _, atI_end (by rw [List.length_map]; exact hlL) g3, ?_⟩
        simp only [ea2]
        walk_at "ox"
        refine ⟨d2, rws2, ⟨dx2, ea2⟩, ht2, by rw [show rws2.length = rows.length from Paired.length hr2]; omega, fun p3 ts3 H10 np3 s10 ep3 hts3 => ?_⟩
        have W10 := Wd.same W9 s10
        obtain ⟨us, eu, hus⟩ := Wd.g W10
        refine ⟨ts3, us, rows, ep3, eu, RowsO.of hts3 (RowsR.hs hr2 (.same s10)), hus, I.rn, ?_⟩
        exact h H10 x1 _ rows W10 I.adds hy1 (by omega)
      rw [if_neg hk9]
      refine hN _ _ ?_
      clear hN N
      simp only [tSeq]
      refine cut_ fun N hN => ifs_ ?_
      walk_at "ox"
      by_cases hk10 : d1 = 9
      · rw [if_pos hk10]
        unfold spMk_Ref
        intro r0 rdx0 H6 nr0 s6 er0 r1 rdx1 H7 nr1 s7 er1
        unfold spMk_Builtin
        intro r2 rdx2 H8 nr2 s8 er2 tp H9 ntp s9 etp
        have S9 := ((s6.trans s7).trans s8).trans s9
        have W9 := Wd.same W5 S9
        refine ⟨H0, sc, ns, _, W9.dr, fun H10 k10 => rl_t (k10 _ _ (by simpa using n_s (Wd.same W5 ((s6.trans s7).trans s8)) ntp) etp), by simp, by simp, fun H10 bad k10 D10 hbad => ?_⟩
        have W10 : LW K w c H0 s sc ns x S R rows H10 := Wd.draw W9 k10 D10
        have hb : ∃ b, IsVal c H10 bad b ∧ keyB b = false ∧ WfR S b := by
          simp only [List.mem_cons, List.not_mem_nil, or_false] at hbad
          rcases hbad with rfl | rfl | rfl
          · exact ⟨.ob 0, ⟨r0, rfl, rdx0, k10 _ _ (by simpa using n_s W5 nr0) (s9 _ _ (s8 _ _ (s7 _ _ er0)))⟩, rfl, fun n e => by cases e; omega⟩
          · exact ⟨.ob 1, ⟨r1, rfl, rdx1, k10 _ _ (by simpa using n_s (Wd.same W5 s6) nr1) (s9 _ _ (s8 _ _ er1))⟩, rfl, fun n e => by cases e; omega⟩
          · exact ⟨.bt "print", ⟨r2, rfl, rdx2, k10 _ _ (by simpa using n_s (Wd.same W5 (s6.trans s7)) nr2) (s9 _ _ er2)⟩, rfl, fun n e => by cases e⟩
        obtain ⟨b, hvb, hkbb, hwb⟩ := hb
        clear hbad
        intro due H11 ndue s11 edue
        have W11 := Wd.same W10 s11
        have hvb11 := hvb.same s11
        refine cut_ fun N2 hN2 => ifs_ ?_
        walk_at "ox"
        intro l1 H12 nl1 s12 e12
        have W12 := Wd.same W11 s12
        refine ⟨x, S, rows, _, [b], _, rfl, Wd.st W12, I.it, hn, by omega, e12, .cons (hvb11.same s12) .nil, (fun t m => by rw [List.mem_singleton.mp m]; exact hwb), by simp, .inr (.inl ⟨rfl, b, rfl, rfl⟩), ?_⟩
        unfold getM
        rw [if_neg (by rw [hkbb]; simp)]
        refine outS_catch fun p1 H13 np1 s13 ep1 => ?_
        have S13 := s12.trans s13
        have W13 := Wd.same W11 S13
        have edue13 := S13 _ _ edue
        refine ⟨_, .tup (.inl (.inl ep1)) (dpAll_sc rfl), _, .tup (.inl (.inl edue13)) (dpAll_sc rfl), tup_okd rfl, tup_okd rfl, ?_⟩
        rw [show (List.map dV [V.str (Str.ofString "KindError"), V.str badKey]) = List.map dV [V.str (Str.ofString "KindError"), V.str (Str.ofString "keys are null, booleans, integers and texts")] from rfl, tup_eqv rfl]
        walk_at "ox"
        intro l2 H14 nl2 s14 e14
        have W14 := Wd.same W13 s14
        refine ⟨x, S, rows, _, [b, .num 1], _, rfl, Wd.st W14, I.it, hn, by omega, e14, .cons (((hvb11.same S13).same s14)) (.cons rfl .nil), (fun t m => by
          simp only [List.mem_cons, List.not_mem_nil, or_false] at m
          rcases m with rfl | rfl
          · exact hwb
          · exact WfR.num), by simp, .inr (.inr ⟨rfl, b, .num 1, rfl, rfl⟩), ?_⟩
        unfold setM
        rw [if_neg (by rw [hkbb]; simp)]
        refine outS_catch fun p2 H15 np2 s15 ep2 => ?_
        have S15 := s14.trans s15
        have W15 := Wd.same W13 S15
        have edue15 := S15 _ _ edue13
        refine ⟨_, .tup (.inl (.inl ep2)) (dpAll_sc rfl), _, .tup (.inl (.inl edue15)) (dpAll_sc rfl), tup_okd rfl, tup_okd rfl, ?_⟩
        rw [show (List.map dV [V.str (Str.ofString "KindError"), V.str badKey]) = List.map dV [V.str (Str.ofString "KindError"), V.str (Str.ofString "keys are null, booleans, integers and texts")] from rfl, tup_eqv rfl]
        walk_at "ox"
        refine hN2 _ _ ?_
        clear hN2 N2
        simp only [tSeq]
        walk_at "ox"
        intro tp2 H16 ntp2 s16 etp2
        have W16 := Wd.same W15 s16
        refine ⟨H0, sc, ns, _, W16.dr, fun H17 k17 => rl_t (k17 _ _ (by simpa using n_s W15 ntp2) etp2), by simp, by simp, fun H17 nm k17 D17 hnm => ?_⟩
        have W17 : LW K w c H0 s sc ns x S R rows H17 := Wd.draw W16 k17 D17
        have hvb17 : IsVal c H17 bad b := ((((hvb11.same S13).same S15).same s16)).hs (.keep k17 (Wd.s_soft W16))
        have fin : ∀ (z : Str) (u : V) (r : RV) (kd : Str), MK.lookup z = some (some [kd]) → IsVal c H17 u r → WfR S r → fitsK S [r] [kd] = false → ∀ l H18, Same H17 H18 → H18 l = some (.lst [u]) → spLTry K w c [.ref x.y, .str "call", .str z, .ref l] H18 (fun x H1 => ∀ (p : Addr) (H2 : Hp), H1 p = none → Same H1 H2 → H2 p = some (HO.tup [V.str (Str.ofString "KindError"), V.str (Str.ofString "wrong argument")]) → ∃ d, Dp K H2 x d ∧ ∃ e, Dp K H2 (.ref p) e ∧ okd d = true ∧ okd e = true ∧ Q (.bl (PyData.eqv d e)) H2) E0 := fun z u r kd hz hu hw hf l H18 s18 el18 => by
          have W18 := Wd.same W17 s18
          refine ⟨x, S, rows, _, [r], _, rfl, Wd.st W18, I.it, hn, by omega, el18, .cons (hu.same s18) .nil, (fun t m => by rw [List.mem_singleton.mp m]; exact hw), by simp, .inl ⟨rfl, .kind [kd] hz (by simp) rfl hf⟩, ?_⟩
          refine outS_catch fun p3 H19 np3 s19 ep3 => ?_
          intro p4 H20 np4 s20 ep4
          refine ⟨_, .tup (.inl (.inl (s20 _ _ ep3))) (dpAll_sc rfl), _, .tup (.inl (.inl ep4)) (dpAll_sc rfl), tup_okd rfl, tup_okd rfl, ?_⟩
          rw [tup_eqv rfl]
          exact h H20 x S rows (Wd.same W18 (s19.trans s20)) I rfl (by omega)
        simp only [List.mem_cons, List.not_mem_nil, or_false] at hnm
        rcases hnm with rfl | rfl | rfl
        · repeat (first | walk_at "oxs" | simp only [one2])
          intro l3 H18 nl3 s18 e18
          have F := fin "has" bad b "key" (by decide +kernel) hvb17 hwb (by simp [fitsK, fitK_bad hkbb]) l3 H18 s18 e18
          exact F
        · repeat (first | walk_at "oxs" | simp only [one2])
          intro l3 H18 nl3 s18 e18
          have F := fin "remove" bad b "key" (by decide +kernel) hvb17 hwb (by simp [fitsK, fitK_bad hkbb]) l3 H18 s18 e18
          exact F
        · repeat (first | walk_at "oxs" | simp only [one2])
          intro l3 H18 nl3 s18 e18
          have hfm : fitK S (.num 7) "map" = false := by
            unfold fitK
            rw [if_neg (by decide)]
            simp only [kindR]
            rfl
          have F := fin "merge" (.int 7) (.num 7) "map" (by decide +kernel) rfl WfR.num (by simp [fitsK, hfm]) l3 H18 s18 e18
          exact F
      rw [if_neg hk10]
      refine hN _ _ ?_
      clear hN N
      simp only [tSeq]
      refine cut_ fun N hN => ifs_ ?_
      walk_at "ox"
      refine ⟨H0, sc, ns, W5.dr, by omega, by omega, fun H6 d6 k6 D6 d60 d61 => ?_⟩
      have W6 : LW K w c H0 s sc ns x S R rows H6 := Wd.draw W5 k6 D6
      obtain ⟨ts, el, hts⟩ := Wd.g W6
      have hle : ts.length = rows.length := Paired.length hts
      walk_at "ox"
      by_cases hd6 : 0 < d6
      · rw [if_pos hd6]
        intro l H7 nl s7 e7
        have W7 := Wd.same W6 s7
        refine try_call (op := .length) (Wd.st W7) I (by omega) e7 (ks := []) (show MK.lookup ("length" : Str) = _ by decide +kernel) .nil (fun q m => by cases m) rfl (by decide) (by simp [MOp.args, fitsK]) trivial ?_
        intro v1 d7 H8 k8 hd8 so8 st8 hv1 p1 H9 np1 s9 ep1
        have W9 := Wd.same (Wd.setSelf W7 I hd8 k8 so8 st8) s9
        obtain ⟨us, eu, hus⟩ := Wd.g W9
        have hlu : us.length = rows.length := Paired.length hus
        walk_at "ox"
        refine ⟨_, rl_l eu, ?_⟩
        rw [List.length_map, hlu]
        exact ⟨v1, .num rows.length, ep1, hv1.same s9, rfl, (fun z e => by cases e), h H9 x S rows W9 I rfl (by omega)⟩
      rw [if_neg hd6]
      refine hN _ _ ?_
      clear hN N
      simp only [tSeq]
      walk_at "ox"
      rw [el]
      refine ⟨trivial, fun l H7 nl s7 e7 => ?_⟩
      have kR : Keep [R] H6 (upd H6 R (.lst [])) := Keep.refl.upd (by simp)
      have W6' : LW K w c H0 s sc ns x S R [] (upd H6 R (.lst [])) := LW.own (ts := []) W6 kR upd_same .nil
      have W7 := Wd.same W6' s7
      refine try_call (op := .clear) (Wd.st W7) I (by omega) e7 (ks := []) (show MK.lookup ("clear" : Str) = _ by decide +kernel) .nil (fun q m => by cases m) rfl (by decide) (by simp [MOp.args, fitsK]) trivial ?_
      intro v1 d7 H8 k8 hd8 so8 st8 hv1 p1 H9 np1 s9 ep1
      have W9 := Wd.same (Wd.set W7 hd8 k8 so8 st8) s9
      walk_at "ox"
      exact ⟨v1, .nul, ep1, hv1.same s9, rfl, (fun z e => by cases e), h H9 x _ [] W9 (I.set ⟨by simp, List.nodup_nil, (fun r m => by cases m), (fun r m => by cases m)⟩) rfl (by rw [setT_len]; omega)⟩
    · cases h
def spLaw (K : PySem.W.Frag) : Sp := fun vs H Q _ => ∃ (a : Addr) (ns : List Int), vs = [.ref a] ∧ SqL K H a (ns.map V.int) ∧ ns.length ≤ 63 ∧ ∀ H', Q (.bl true) H'
def StepI (K : PySem.W.Frag) (w : World) (c : Cs) (H0 : Hp) (s sc : Addr) (ns : List Int) (y R : Addr) (k : Nat) (σ : L2.St) (H : Hp) : Prop := ∃ x S rows v, σ = [some (.ref sc), some (.ref s), some (.ref y), some (.ref R), v] ∧ x.y = y ∧ LW K w c H0 s sc ns x S R rows H ∧ LI S rows ∧ S.things.length ≤ 10 + 110 * k
theorem eqO_ref {H : Hp} {r r2 : Addr} {n m : Int} {Q : VK} (h1 : IsRef c H r n) (h2 : IsRef c H r2 m) (q : Q (.bl (decide (n = m))) H) : fEqO c.Ref (spEqRef c) E0 (.ref r) (.ref r2) H Q := by
  obtain ⟨d1, e1⟩ := id h1
  obtain ⟨d2, e2⟩ := id h2
  refine ⟨by rw [e1], by rw [e2], n, m, h1, h2, q⟩
def rows0 (n : Nat) : List (RV × RV) := (List.range n).map fun i : Nat => (RV.num ((i : Int) + 10), RV.num (i : Int))
theorem rows0_rn {n : Nat} (h : n ≤ 1000) : RowsN (rows0 n) := by
  refine ⟨by unfold rows0; rw [List.length_map, List.length_range]; exact h, ?_, fun r m => ?_, fun r m => ?_⟩
  · unfold rows0
    rw [List.map_map]
    refine List.Pairwise.map _ (fun (a b : Nat) (hab : a ≠ b) e => ?_) List.nodup_range
    have e : RV.num ((a : Int) + 10) = RV.num ((b : Int) + 10) := e
    cases e
    omega
  · obtain ⟨i, _, rfl⟩ := List.mem_map.mp m
    rfl
  · obtain ⟨i, _, rfl⟩ := List.mem_map.mp m
    exact fun z e => by cases e
set_option maxHeartbeats 8000000 in
theorem law_has {fa : Addr} {fd : FuncData} (F : Fun K "law" "law" s_law fa fd) (T : Txt K mg c) (H_law_begin : Has P w K mg base CX0 "_law_begin" 1 ["script", "k"] (spBegin K)) (H_law_draw : Has P w K mg base CX0 "_law_draw" 2 ["state", "many"] (spDraw K)) (M_Store : HasC P w K mg base CX0 c.Store "Store" 3 ["self", "lines"] (spStore w K c)) (M_Ref : HasC P w K mg base CX0 c.Ref "Ref" 1 ["self", "number"] (spMk_Ref K c)) (M_Ref___eq__ : HasM P w K mg base CX0 c.Ref "__eq__" 1 ["self", "other"] (spEqRef c)) (M_Builtin___eq__ : HasM P w K mg base CX0 c.Builtin "__eq__" 1 ["self", "other"] spEqBt) (H_make_map : Has P w K mg base (L2.CX P w) "make_map" 5 ["store", "pairs"] (spMkMap w c)) (H_law_step : Has P w K mg base CX0 "_law_step" 10 ["store", "rows", "state"] (spLStep K w c)) (M_Table_pairs : HasM P w K mg base CX0 c.Table "pairs" 1 ["self"] (spPairs w c)) (P_Table_many : HasP P w K mg base CX0 c.Table "many" 1 ["self"] (spMany w c)) (H_law_pairs : Has P w K mg base CX0 "_law_pairs" 2 ["told", "rows"] (spLPairs c)) : FnOk P w K mg base CX0 11 fa fd ["script"] (spLaw K) := by
  have Sc := sc_law
  refine F.ok Sc (fun vs H Q E h => ?_) (fun cdv A outer s H vs Q E hr h => ?_)
  · obtain ⟨a, ns, rfl, _⟩ := h; rfl
  · obtain ⟨sc, ns, rfl, hS, hn, hq⟩ := h
    refine ⟨_, (pss_cons (ps_set (i := 1) Sc.nd rfl (.inl rfl) (fe_call H_law_begin (hr.mono (by walk_at "rm")) (by rfl) pass0 (pa_cons (fe_var 0) (pa_cons pe_int pa_nil))))
      (pss_cons (ps_set (i := 2) Sc.nd rfl (.inl rfl) (fe_make (k := _) M_Store (hr.mono (by walk_at "rm")) (by rfl) pass0 (pa_cons (fe_lst pa_nil) pa_nil)))
      (pss_cons (ps_set (i := 3) Sc.nd rfl (.inl rfl) (fe_lst pa_nil))
      (pss_cons (ps_if (pt_cmpR (op_fEq hr.units) (fe_call H_law_draw (hr.mono (by walk_at "rm")) (by rfl) pass0 (pa_cons (fe_var 1) (pa_cons pe_int pa_nil))) pe_int (nomark _)) (pss_one (ps_setLc (i := 3) (own := [("k", 4)]) (by rfl) Sc.nd rfl rfl (sw_true rfl rfl rfl (by decide +kernel)) (pi_range1 (by rfl) T.no_range (pa_cons (pe_op op_fAdd pe_int (fe_call H_law_draw (hr.mono (by walk_at "rm")) (by rfl) pass0 (pa_cons (fe_var 1) (pa_cons pe_int pa_nil)))) pa_nil)) (blkOk_by (own := [("k", 4)]) (N := ["script", "state", "store", "rows", "k"]) (sc := defScope s_law) (by decide +kernel)) (fun _ _ _ _ _ => (pg_name (i := 4) Sc.nd rfl (.inl rfl))) (fun _ _ _ _ _ => pts_nil) (fun _ _ _ _ _ => (fe_tup (pa_cons (pe_op (op_fAddK (K := K) rfl) (fe_var 4) pe_int) (pa_cons (fe_var 4) pa_nil)))))) pss_nil)
      (pss_cons (ps_if (pt_not (pt_cmpR (op_fOr (op_fEqO M_Ref___eq__ (hr.mono (by walk_at "rm")) pass0) (op_fOr (op_fEqO M_Builtin___eq__ (hr.mono (by walk_at "rm")) pass0) (op_fEq hr.units))) (fe_callX H_make_map (hr.mono (by walk_at "rm")) (by rfl) takes0 (pa_cons (fe_var 2) (pa_cons (pe_callTy call_fListOf (by rfl) T.no_list (by decide +kernel) (pa_cons (fe_var 3) pa_nil)) pa_nil))) (fe_make (k := _) M_Ref (hr.mono (by walk_at "rm")) (by rfl) pass0 (pa_cons pe_int pa_nil)) (nomark _))) (pss_one (ps_ret pe_bl)) pss_nil)
      (pss_cons (ps_for PassesOwn.never rfl (pi_range1 (by rfl) T.no_range (pa_cons (pe_callB (call_fMin rfl) (by rfl) T.no_min (by decide +kernel) (pa_cons pe_int (pa_cons (pe_callB (call_fMax rfl) (by rfl) T.no_max (by decide +kernel) (pa_cons pe_int (pa_cons (pe_callB call_fLen (by rfl) T.no_len (by decide +kernel) (pa_cons (fe_var 0) pa_nil)) pa_nil))) pa_nil))) pa_nil)) (pg_name (i := 4) Sc.nd rfl (.inl rfl)) (pss_cons (ps_if (PW.pt (pw_or (pt_not (pt_val (fe_call H_law_step (hr.mono (by walk_at "rm")) (by rfl) pass0 (pa_cons (fe_var 2) (pa_cons (fe_var 3) (pa_cons (fe_var 1) pa_nil)))))) (pw_or1 (pt_not (pt_val (fe_call H_law_pairs (hr.mono (by walk_at "rm")) (by rfl) pass0 (pa_cons (fe_meth0 M_Table_pairs T.cl_Table (hr.mono (by walk_at "rm")) pass0 (pe_ix ix_fx (fe_fld (fe_var 2) T.pl_things rfl) pe_int (fun _ _ => rfl))) (pa_cons (fe_var 3) pa_nil)))))))) (pss_one (ps_ret pe_bl)) pss_nil)
      (pss_one (ps_if (pt_cmpR (op_fNe hr.units) (fe_prop P_Table_many T.cl_Table (hr.mono (by walk_at "rm")) pass0 (pe_ix ix_fx (fe_fld (fe_var 2) T.pl_things rfl) pe_int (fun _ _ => rfl)) rfl) (pe_callB call_fLen (by rfl) T.no_len (by decide +kernel) (pa_cons (fe_var 3) pa_nil)) (nomark _)) (pss_one (ps_ret pe_bl)) pss_nil))))
      (pss_one (ps_ret pe_bl)))))))), ?_⟩
    walk_at "fx0"
    walk_at "ox"
    refine ⟨by decide, ?_⟩
    intro s H1 ns1 sm1 es
    have D : Dr K H s sc ns H1 := ⟨⟨0, 0, es, by decide, by decide⟩, hS, sm1, ns1, hn⟩
    walk_at "ox"
    intro l0 H2 nl0 s2 el0
    refine ⟨[], rl_l el0, fun x H3 St s3 hfr => ?_⟩
    have W0 : Wd K w c H s sc ns x (st0 []) (fun _ => True) [] H3 := by
      refine ⟨(D.same s2).same s3, St, trivial, fun _ _ _ _ _ => trivial, (fun q m => by cases m), ?_, ?_⟩
      · rw [List.append_nil, List.nodup_cons]
        exact ⟨(fun m => by have := hfr s m; rw [s2 _ _ es] at this; cases this), St.nd⟩
      · intro q m
        rw [List.append_nil] at m
        rcases List.mem_cons.mp m with rfl | m
        · exact ns1
        · exact (sm1.trans s2).free (hfr q m)
    walk_at "ox"
    intro R H4 nR s4 eR
    have W4 : LW K w c H s sc ns x (st0 []) R [] H4 := Wd.grow W0 (qs := [R]) s4 (fun q m => by rw [List.mem_singleton.mp m]; exact nR) (by simp) (fun q m => by rw [List.mem_singleton.mp m]; exact ⟨_, eR⟩) ⟨[], eR, .nil⟩ gm_rows
    refine cut_ fun N hN => ifs_ ?_
    walk_at "ox"
    refine ⟨H, sc, ns, Wd.dr W4, by omega, by omega, fun H5 d5 k5 D5 d50 d51 => ?_⟩
    have W5 : LW K w c H s sc ns x (st0 []) R [] H5 := Wd.draw W4 k5 D5
    have fin : ∀ rows R H8 v4, LW K w c H s sc ns x (st0 []) R rows H8 → RowsN rows → N [some (V.ref sc), some (V.ref s), some (V.ref x.y), some (V.ref R), v4] H8 := fun rows R H8 v4 W8 rn => by
      refine hN _ _ ?_
      clear hN N
      obtain ⟨ts, el, hts⟩ := Wd.g W8
      have hlt : ts.length = rows.length := Paired.length hts
      walk_at "ox"
      refine cut_ fun N hN => ifs_ ?_
      walk_at "ox"
      refine ⟨_, rl_l el, fun g H9 ng s9 eg => ?_⟩
      have W9 := Wd.same W8 s9
      obtain ⟨rws, hT, hR⟩ := RowsO.split (RowsO.hs hts (.same s9))
      have hlr : rws.length = rows.length := Paired.length hR
      have := rn.le
      refine ⟨x, st0 [], ts, rws, rows, rfl, Wd.st W9, eg, hT, RowsR.nd hR rn.kb rn.nd, RowsR.sck hR rn.kb, hR, by omega, by decide, ?_⟩
      intro r a b H10 nr nf k10 st10 hr10
      have W10 : LW K w c H s sc ns (x.add a b) _ R rows H10 := Wd.make W9 nf k10 st10
      walk_at "ox"
      unfold spMk_Ref
      intro r2 rdx H11 nr2 s11 er2
      have W11 := Wd.same W10 s11
      walk_at "ox"
      refine .inl ?_
      refine eqO_ref (hr10.same s11) ⟨_, er2⟩ ?_
      rw [decide_eq_true (show ((st0 []).things.length : Int) = 1 from rfl)]
      walk_at "ox"
      refine hN _ _ ?_
      clear hN N
      have LI11 : LI ((st0 []).add (.table rows)) rows := ⟨rfl, rn⟩
      walk_at "ox"
      refine cut_ fun N hN => for_ ?_
      walk_at "ox"
      refine ⟨_, .inl (W11.dr.sm.seq hS), ?_⟩
      rw [List.length_map]
      generalize hm : (if (if (ns.length : Int) > 8 then (ns.length : Int) else 8) < 45 then (if (ns.length : Int) > 8 then (ns.length : Int) else 8) else 45) = m
      have hm9 : 0 ≤ m ∧ m ≤ 45 := by
        rw [← hm]
        split <;> split <;> omega
      refine ⟨by omega, by omega, ?_⟩
      refine loop_range (StepI K w c H s sc ns x.y R) ⟨x.add a b, _, rows, _, rfl, rfl, W11, LI11, by show 2 ≤ _; omega⟩ ?_ ?_
      · rintro k σ H13 hk ⟨X, S, rows, v, rfl, ey, W, I, hsl⟩
        walk_at "ox"
        refine cut_ fun N2 hN2 => ifs_ ?_
        walk_at "ox"
        refine ⟨H, sc, ns, X, S, rows, ey.symm, W, I, by omega, fun H14 x' S' rows' W14 I14 ey' hs' => ?_⟩
        obtain ⟨sdx, es14⟩ := (Wd.st W14).st
        rw [ey'] at es14
        obtain ⟨a1, b1, h1, ⟨d2, rws2, rfl, ⟨dx2, ea2⟩, ht2, hr2⟩, h3⟩ := (Wd.st W14).num I14.it
        have hl2 : rws2.length = rows'.length := Paired.length hr2
        have := I14.rn.le
        repeat (walk_at "oxs")
        simp only [es14]
        walk_at "ox"
        refine ⟨_, rl_l (Wd.st W14).et, _, h3, ?_⟩
        simp only [ea2]
        walk_at "ox"
        refine ⟨d2, rws2, ⟨dx2, ea2⟩, ht2, by omega, fun p3 ts3 H15 np3 s15 ep3 hts3 => ?_⟩
        have W15 := Wd.same W14 s15
        obtain ⟨us, eu, hus⟩ := Wd.g W15
        refine ⟨ts3, us, rows', ep3, eu, RowsO.of hts3 (RowsR.hs hr2 (.same s15)), hus, I14.rn, ?_⟩
        repeat (walk_at "oxs")
        refine hN2 _ _ ?_
        clear hN2 N2
        walk_at "ox"
        refine ifs_ ?_
        walk_at "ox"
        simp only [s15 _ _ es14]
        walk_at "ox"
        refine ⟨_, rl_l (Wd.st W15).et, _, h3, ?_⟩
        simp only [s15 _ _ ea2]
        walk_at "ox"
        refine ⟨d2, rws2, ⟨dx2, s15 _ _ ea2⟩, ht2.same s15, ?_⟩
        walk_at "ox"
        refine ⟨_, rl_l eu, ?_⟩
        rw [List.length_map, show us.length = rows'.length from Paired.length hus, hl2, if_neg (by simp)]
        exact ⟨x', S', rows', _, rfl, ey', W15, I14, by omega⟩
      · rintro σ H13 ⟨X, S, rs, v, rfl, ey, W, I, hsl⟩
        refine hN _ _ ?_
        walk_at "ox"
        exact hq H13
    walk_at "ox"
    split
    · refine cute_ fun N2 hN2 => ?_
      refine lc_ ?_
      walk_at "ox"
      refine ⟨H, sc, ns, Wd.dr W5, by omega, by omega, fun H8 d8 k8 D8 d80 d81 => ?_⟩
      have W8 : LW K w c H s sc ns x (st0 []) R [] H8 := Wd.draw W5 k8 D8
      obtain ⟨n, hn8⟩ : ∃ n : Nat, 995 + d8 = n := ⟨(995 + d8).toNat, by omega⟩
      walk_at "ox"
      rw [hn8]
      walk_at "ox"
      refine ⟨by omega, by omega, fun R2 nR2 => ?_⟩
      refine lcx_range (fun i H9 => Same H8 H9 ∧ ∃ ts : List Addr, H9 R2 = some (.lst (ts.map V.ref)) ∧ RowsO c H9 ts (rows0 i)) ⟨same_new nR2, [], upd_same, .nil⟩ ?_ ?_
      · rintro i H9 hi ⟨s9, ts, e9, h9⟩
        walk_at "ox"
        intro p H10 np s10 ep
        have e10 := s10 _ _ e9
        have hl : ts.length = i := by
          rw [show ts.length = _ from Paired.length h9]
          unfold rows0
          rw [List.length_map, List.length_range]
        have kR : Keep [R2] H10 (upd H10 R2 (.lst (ts.map V.ref ++ [.ref p]))) := Keep.refl.upd (by simp)
        have hs : HardStay c H10 (upd H10 R2 (.lst (ts.map V.ref ++ [.ref p]))) := .keep kR fun p m => by rw [List.mem_singleton.mp m]; exact soft_lst e10
        refine ⟨_, e10, len_line' (by rw [List.length_map]; omega), mk_same (s9.trans s10) nR2, ts ++ [p], by rw [List.map_append]; rfl, ?_⟩
        unfold rows0
        rw [List.range_succ, List.map_append]
        exact Paired.snoc (RowsO.hs (RowsO.hs h9 (.same s10)) hs) ⟨_, _, hs _ _ ep (Hard.t _), rfl, rfl⟩
      · rintro H9 ⟨s9, ts, e9, h9⟩
        refine hN2 _ _ ?_
        walk_at "ox"
        refine fin (rows0 n) R2 H9 _ ?_ (rows0_rn (by omega))
        exact Wd.mvG W8 (ps := []) (Keep.of s9) (fun p m => by cases m) (fun p m => by cases m) (by simp) (fun q m => by rw [List.mem_singleton.mp m]; exact .inr nR2) (fun q m => by rw [List.mem_singleton.mp m]; exact ⟨_, e9⟩) ⟨ts, e9, h9⟩ gm_rows
    · exact fin [] R H5 _ W5 ⟨by simp, List.nodup_nil, (fun r m => by cases m), (fun r m => by cases m)⟩
end

section
variable {P : Program} {w : World} {K : PySem.W.Frag} {mg : Str → Option Value} {base : Heap} {c : Cs}
theorem law_fn {fa : Addr} {fd : FuncData} (F : Fun K "law" "law" s_law fa fd) (T : Txt K mg c) (TD : TxD w K mg)
    (a_law_cell : At K mg "_law_cell" "_law_cell" s_law_cell ["script", "k"])
    (a_law_begin : At K mg "_law_begin" "_law_begin" s_law_begin ["script", "k"])
    (a_law_draw : At K mg "_law_draw" "_law_draw" s_law_draw ["state", "many"])
    (a_Ref___init__ : AtM K c.Ref "__init__" "Ref.__init__" s_Ref___init__ ["self", "number"])
    (a_Builtin___init__ : AtM K c.Builtin "__init__" "Builtin.__init__" s_Builtin___init__ ["self", "name"])
    (a_Instance___init__ : AtM K c.Instance "__init__" "Instance.__init__" s_Instance___init__ ["self", "owner"])
    (a_Kin___init__ : AtM K c.Kin "__init__" "Kin.__init__" s_Kin___init__ ["self", "name", "parent"])
    (a_Parts___init__ : AtM K c.Parts "__init__" "Parts.__init__" s_Parts___init__ ["self", "held"])
    (a_ScriptError___init__ : AtE K c.ScriptError "ScriptError.__init__" s_ScriptError___init__ ["self", "kind", "message"])
    (a_Table___init__ : AtM K c.Table "__init__" "Table.__init__" s_Table___init__ ["self"])
    (a_key_of : At K mg "key_of" "key_of" s_key_of ["value"])
    (a_Table_has : AtM K c.Table "has" "Table.has" s_Table_has ["self", "key"])
    (a_Table_value_of : AtM K c.Table "value_of" "Table.value_of" s_Table_value_of ["self", "key"])
    (a_Table_put : AtM K c.Table "put" "Table.put" s_Table_put ["self", "key", "value"])
    (a_Table_take_out : AtM K c.Table "take_out" "Table.take_out" s_Table_take_out ["self", "key"])
    (a_Table_many : AtP K c.Table "many" "Table.many" s_Table_many ["self"])
    (a_Table_pairs : AtM K c.Table "pairs" "Table.pairs" s_Table_pairs ["self"])
    (a_Store___init__ : AtM K c.Store "__init__" "Store.__init__" s_Store___init__ ["self", "lines"])
    (a_Store_make : AtM K c.Store "make" "Store.make" s_Store_make ["self", "thing"])
    (a_Store_at : AtM K c.Store "at" "Store.at" s_Store_at ["self", "ref"])
    (a_thing_of : At K mg "thing_of" "thing_of" s_thing_of ["store", "value"])
    (a_kind_of : At K mg "kind_of" "kind_of" s_kind_of ["store", "value"])
    (a_check_parts : At K mg "check_parts" "check_parts" s_check_parts ["count"])
    (a_make_list : At K mg "make_list" "make_list" s_make_list ["store", "values"])
    (a_law_pick : At K mg "_law_pick" "_law_pick" s_law_pick ["state", "row"])
    (a_equal : At K mg "equal" "equal" s_equal ["x", "y"])
    (a_check_kinds : At K mg "check_kinds" "check_kinds" s_check_kinds ["store", "values", "kinds"])
    (a_check_count : At K mg "check_count" "check_count" s_check_count ["values", "wanted"])
    (a_is_key : At K mg "is_key" "is_key" s_is_key ["value"])
    (a_checked_key : At K mg "checked_key" "checked_key" s_checked_key ["i"])
    (a_put_key : At K mg "put_key" "put_key" s_put_key ["table", "key", "value"])
    (a_make_map : At K mg "make_map" "make_map" s_make_map ["store", "pairs"])
    (a_get_item : At K mg "get_item" "get_item" s_get_item ["store", "x", "i"])
    (a_set_item : At K mg "set_item" "set_item" s_set_item ["store", "x", "i", "value"])
    (a_remove_key : At K mg "remove_key" "remove_key" s_remove_key ["table", "key"])
    (a_merge_into : At K mg "merge_into" "merge_into" s_merge_into ["table", "other"])
    (a_clear_all : At K mg "clear_all" "clear_all" s_clear_all ["table"])
    (a_copy_of : At K mg "copy_of" "copy_of" s_copy_of ["store", "table"])
    (a_listed : At K mg "listed" "listed" s_listed ["store", "table", "name"])
    (a_call_map : At K mg "call_map" "call_map" s_call_map ["store", "table", "name", "values"])
    (a_call_method : At K mg "call_method" "call_method" s_call_method ["store", "x", "name", "values"])
    (a_Ref___eq__ : AtM K c.Ref "__eq__" "Ref.__eq__" s_Ref___eq__ ["self", "other"])
    (a_Builtin___eq__ : AtM K c.Builtin "__eq__" "Builtin.__eq__" s_Builtin___eq__ ["self", "other"])
    (a_law_same : At K mg "_law_same" "_law_same" s_law_same ["x", "y"])
    (a_law_key : At K mg "_law_key" "_law_key" s_law_key ["state"])
    (a_law_at : At K mg "_law_at" "_law_at" s_law_at ["rows", "key"])
    (a_law_put : At K mg "_law_put" "_law_put" s_law_put ["rows", "key", "value"])
    (a_law_pairs : At K mg "_law_pairs" "_law_pairs" s_law_pairs ["told", "rows"])
    (a_law_is : At K mg "_law_is" "_law_is" s_law_is ["told", "value"])
    (a_law_try : At K mg "_law_try" "_law_try" s_law_try ["store", "deed", "name", "values"])
    (a_law_taken : At K mg "_law_taken" "_law_taken" s_law_taken ["store", "rows", "key"])
    (a_law_set : At K mg "_law_set" "_law_set" s_law_set ["store", "rows", "key", "value"])
    (a_law_read : At K mg "_law_read" "_law_read" s_law_read ["store", "rows", "key", "value"])
    (a_law_listed : At K mg "_law_listed" "_law_listed" s_law_listed ["store", "rows"])
    (a_law_merged : At K mg "_law_merged" "_law_merged" s_law_merged ["store", "rows", "state"])
    (a_law_step : At K mg "_law_step" "_law_step" s_law_step ["store", "rows", "state"]) :
    FnOk P w K mg base CX0 11 fa fd ["script"] (spLaw K) := by
  have H_law_cell := ok_cell (P := P) (w := w) (base := base) a_law_cell T 
  have H_law_begin := ok_begin (P := P) (w := w) (base := base) a_law_begin T 
  have H_law_draw := ok_draw (P := P) (w := w) (base := base) a_law_draw T H_law_cell
  have M_Ref := mk_Ref (P := P) (w := w) (base := base) a_Ref___init__ T 
  have M_Builtin := mk_Builtin (P := P) (w := w) (base := base) a_Builtin___init__ T 
  have M_Instance := mk_Instance (P := P) (w := w) (base := base) a_Instance___init__ T 
  have M_Kin := mk_Kin (P := P) (w := w) (base := base) a_Kin___init__ T 
  have M_Parts := mk_Parts (P := P) (w := w) (base := base) a_Parts___init__ T 
  have E_ScriptError := mkE_ScriptError (P := P) (w := w) (base := base) a_ScriptError___init__ T 
  have M_Table := ok_mktab (P := P) (w := w) (base := base) a_Table___init__ T 
  have H_key_of := ok_keyof (P := P) (w := w) (base := base) a_key_of T 
  have M_Table_has := ok_has (P := P) (w := w) (base := base) a_Table_has T H_key_of
  have M_Table_value_of := ok_valof (P := P) (w := w) (base := base) a_Table_value_of T H_key_of
  have M_Table_put := ok_put (P := P) (w := w) (base := base) a_Table_put T H_key_of
  have M_Table_take_out := ok_take (P := P) (w := w) (base := base) a_Table_take_out T H_key_of
  have P_Table_many := ok_many (P := P) (w := w) (base := base) a_Table_many T 
  have M_Table_pairs := ok_pairs (P := P) (w := w) (base := base) a_Table_pairs T 
  have M_Store := ok_store (P := P) (w := w) (base := base) a_Store___init__ T M_Kin
  have M_Store_make := ok_make (P := P) (w := w) (base := base) a_Store_make T M_Ref
  have M_Store_at := ok_at (P := P) (w := w) (base := base) a_Store_at T 
  have H_thing_of := ok_thing (P := P) (w := w) (base := base) a_thing_of T M_Store_at
  have H_kind_of := ok_kind (P := P) (w := w) (base := base) a_kind_of T H_thing_of
  have H_check_parts := ok_check (P := P) (w := w) (base := base) a_check_parts T E_ScriptError
  have H_make_list := ok_mklist (P := P) (w := w) (base := base) a_make_list T H_check_parts M_Parts M_Store_make
  have H_law_pick := ok_pick2 (P := P) (w := w) (base := base) a_law_pick T H_law_draw
  have H_equal := ok_equal (P := P) (w := w) (base := base) a_equal T 
  have H_check_kinds := ok_kinds (P := P) (w := w) (base := base) a_check_kinds T H_kind_of E_ScriptError
  have H_check_count := ok_count (P := P) (w := w) (base := base) a_check_count T E_ScriptError
  have H_is_key := ok_iskeyR (P := P) (w := w) (base := base) a_is_key T 
  have H_checked_key := ok_chkkeyR (P := P) (w := w) (base := base) a_checked_key T H_is_key E_ScriptError
  have H_put_key := ok_putkeyR (P := P) (w := w) (base := base) a_put_key T M_Table_has M_Table_put P_Table_many H_check_parts
  have H_make_map := ok_mkmap (P := P) (w := w) (base := base) a_make_map T M_Table H_checked_key H_put_key M_Store_make
  have H_get_item := ok_getM (P := P) (w := w) (base := base) a_get_item T H_thing_of H_kind_of H_checked_key E_ScriptError M_Table_has M_Table_value_of
  have H_set_item := ok_setM (P := P) (w := w) (base := base) a_set_item T H_thing_of H_kind_of H_checked_key H_put_key E_ScriptError
  have H_remove_key := ok_remkey (P := P) (w := w) (base := base) a_remove_key T M_Table_has M_Table_value_of M_Table_take_out E_ScriptError
  have H_merge_into := ok_mergek (P := P) (w := w) (base := base) a_merge_into T M_Table_has M_Table_put M_Table_pairs P_Table_many H_check_parts
  have H_clear_all := ok_cleark (P := P) (w := w) (base := base) a_clear_all T M_Table_take_out M_Table_pairs
  have H_copy_of := ok_copyk (P := P) (w := w) (base := base) a_copy_of T M_Table M_Table_put M_Table_pairs M_Store_make
  have H_listed := ok_listed (P := P) (w := w) (base := base) a_listed T M_Table_pairs H_make_list
  have H_call_map := ok_callmap (P := P) (w := w) (base := base) a_call_map T M_Table_has M_Table_value_of P_Table_many H_remove_key H_listed H_merge_into M_Store_at H_copy_of H_clear_all
  have H_call_method := ok_methM (P := P) (w := w) (base := base) a_call_method T TD H_thing_of H_kind_of H_check_count H_check_kinds H_call_map E_ScriptError
  have M_Ref___eq__ := ok_eqRef (P := P) (w := w) (base := base) a_Ref___eq__ T 
  have M_Builtin___eq__ := ok_eqBt (P := P) (w := w) (base := base) a_Builtin___eq__ T 
  have H_law_same := ok_lsame (P := P) (w := w) (base := base) a_law_same T 
  have H_law_key := ok_lkey (P := P) (w := w) (base := base) a_law_key T H_law_pick
  have H_law_at := ok_lat (P := P) (w := w) (base := base) a_law_at T H_law_same
  have H_law_put := ok_lput (P := P) (w := w) (base := base) a_law_put T H_law_at
  have H_law_pairs := ok_lpairs (P := P) (w := w) (base := base) a_law_pairs T H_law_same
  have H_law_is := ok_lis (P := P) (w := w) (base := base) a_law_is T H_law_same
  have H_law_try := ok_ltry (P := P) (w := w) (base := base) a_law_try T H_call_method H_get_item H_set_item M_Ref
  have H_law_taken := ok_ltaken (P := P) (w := w) (base := base) a_law_taken T H_law_at H_law_try H_law_is
  have H_law_set := ok_lset (P := P) (w := w) (base := base) a_law_set T H_law_at H_law_try H_law_is H_law_put
  have H_law_read := ok_lread (P := P) (w := w) (base := base) a_law_read T H_law_at H_law_try H_law_is
  have H_law_listed := ok_llisted (P := P) (w := w) (base := base) a_law_listed T H_law_try H_law_same
  have H_law_merged := ok_lmerged (P := P) (w := w) (base := base) a_law_merged T H_law_draw H_law_key H_law_put H_make_map H_law_at H_law_try M_Table_pairs H_law_pairs H_law_is
  have H_law_step := ok_lstep (P := P) (w := w) (base := base) a_law_step T H_law_draw H_law_key H_law_pick M_Ref M_Builtin H_law_set H_law_taken H_law_read H_law_listed H_law_merged H_law_try H_law_is M_Table_pairs H_law_pairs
  exact law_has F T H_law_begin H_law_draw M_Store M_Ref M_Ref___eq__ M_Builtin___eq__ H_make_map H_law_step M_Table_pairs P_Table_many H_law_pairs
end
theorem all_mk {P : Program} {w : World} {K : PySem.W.Frag} {h : Heap} {mg : Str → Option Value} {fa : Addr} {C_Ref C_Builtin C_Parts C_Table C_Instance C_Kin C_Store C_Writer C_LivequillError C_ScriptError : Addr} (X : K.In h) (G : h.Ns mainGlobals mg) (hfa : mg "law" = some (.ref fa))
    (n_Ref : PySem.W.nsIn K mainGlobals "Ref" = some (some (.ref C_Ref)))
    (n_Builtin : PySem.W.nsIn K mainGlobals "Builtin" = some (some (.ref C_Builtin)))
    (n_Parts : PySem.W.nsIn K mainGlobals "Parts" = some (some (.ref C_Parts)))
    (n_Table : PySem.W.nsIn K mainGlobals "Table" = some (some (.ref C_Table)))
    (n_Instance : PySem.W.nsIn K mainGlobals "Instance" = some (some (.ref C_Instance)))
    (n_Kin : PySem.W.nsIn K mainGlobals "Kin" = some (some (.ref C_Kin)))
    (n_Store : PySem.W.nsIn K mainGlobals "Store" = some (some (.ref C_Store)))
    (n_Writer : PySem.W.nsIn K mainGlobals "Writer" = some (some (.ref C_Writer)))
    (n_LivequillError : PySem.W.nsIn K mainGlobals "LivequillError" = some (some (.ref C_LivequillError)))
    (n_ScriptError : PySem.W.nsIn K mainGlobals "ScriptError" = some (some (.ref C_ScriptError)))
    (x_Ref : ClsFact K C_Ref)
    (x_Builtin : ClsFact K C_Builtin)
    (x_Parts : ClsFact K C_Parts)
    (x_Table : ClsFact K C_Table)
    (x_Instance : ClsFact K C_Instance)
    (x_Kin : ClsFact K C_Kin)
    (x_Store : ClsFact K C_Store)
    (x_Writer : ClsFact K C_Writer)
    (x_LivequillError : ExcFact K C_LivequillError)
    (x_ScriptError : ExcFact K C_ScriptError)
    (xn_kind_ScriptError : PySem.W.findIn K (.ref C_ScriptError) "kind" = some none)
    (xn_message_ScriptError : PySem.W.findIn K (.ref C_ScriptError) "message" = some none)
    (em_ScriptError_ScriptError : PySem.W.subIn K (.ref C_ScriptError) (.ref C_ScriptError) = some true)
    (ob : ObjFact K)
    (na__rows_Table : PySem.W.findIn K (.ref C_Table) "_rows" = some none)
    (na_held_Parts : PySem.W.findIn K (.ref C_Parts) "held" = some none)
    (na_lines_Store : PySem.W.findIn K (.ref C_Store) "lines" = some none)
    (na_methods_Kin : PySem.W.findIn K (.ref C_Kin) "methods" = some none)
    (na_name_Builtin : PySem.W.findIn K (.ref C_Builtin) "name" = some none)
    (na_name_Kin : PySem.W.findIn K (.ref C_Kin) "name" = some none)
    (na_named_Instance : PySem.W.findIn K (.ref C_Instance) "named" = some none)
    (na_number_Ref : PySem.W.findIn K (.ref C_Ref) "number" = some none)
    (na_output_Store : PySem.W.findIn K (.ref C_Store) "output" = some none)
    (na_owner_Instance : PySem.W.findIn K (.ref C_Instance) "owner" = some none)
    (na_parent_Kin : PySem.W.findIn K (.ref C_Kin) "parent" = some none)
    (na_taken_Store : PySem.W.findIn K (.ref C_Store) "taken" = some none)
    (na_things_Store : PySem.W.findIn K (.ref C_Store) "things" = some none)
    (oo_Ref_Ref : PySem.W.kitOne K (.ref C_Ref) (.ref C_Ref) = some (decide (C_Ref = C_Ref)))
    (oo_Ref_Parts : PySem.W.kitOne K (.ref C_Ref) (.ref C_Parts) = some (decide (C_Ref = C_Parts)))
    (oo_Ref_Table : PySem.W.kitOne K (.ref C_Ref) (.ref C_Table) = some (decide (C_Ref = C_Table)))
    (oo_Ref_Instance : PySem.W.kitOne K (.ref C_Ref) (.ref C_Instance) = some (decide (C_Ref = C_Instance)))
    (oo_Ref_Kin : PySem.W.kitOne K (.ref C_Ref) (.ref C_Kin) = some (decide (C_Ref = C_Kin)))
    (oo_Ref_Builtin : PySem.W.kitOne K (.ref C_Ref) (.ref C_Builtin) = some (decide (C_Ref = C_Builtin)))
    (oo_Builtin_Ref : PySem.W.kitOne K (.ref C_Builtin) (.ref C_Ref) = some (decide (C_Builtin = C_Ref)))
    (oo_Builtin_Parts : PySem.W.kitOne K (.ref C_Builtin) (.ref C_Parts) = some (decide (C_Builtin = C_Parts)))
    (oo_Builtin_Table : PySem.W.kitOne K (.ref C_Builtin) (.ref C_Table) = some (decide (C_Builtin = C_Table)))
    (oo_Builtin_Instance : PySem.W.kitOne K (.ref C_Builtin) (.ref C_Instance) = some (decide (C_Builtin = C_Instance)))
    (oo_Builtin_Kin : PySem.W.kitOne K (.ref C_Builtin) (.ref C_Kin) = some (decide (C_Builtin = C_Kin)))
    (oo_Builtin_Builtin : PySem.W.kitOne K (.ref C_Builtin) (.ref C_Builtin) = some (decide (C_Builtin = C_Builtin)))
    (oo_Parts_Ref : PySem.W.kitOne K (.ref C_Parts) (.ref C_Ref) = some (decide (C_Parts = C_Ref)))
    (oo_Parts_Parts : PySem.W.kitOne K (.ref C_Parts) (.ref C_Parts) = some (decide (C_Parts = C_Parts)))
    (oo_Parts_Table : PySem.W.kitOne K (.ref C_Parts) (.ref C_Table) = some (decide (C_Parts = C_Table)))
    (oo_Parts_Instance : PySem.W.kitOne K (.ref C_Parts) (.ref C_Instance) = some (decide (C_Parts = C_Instance)))
    (oo_Parts_Kin : PySem.W.kitOne K (.ref C_Parts) (.ref C_Kin) = some (decide (C_Parts = C_Kin)))
    (oo_Parts_Builtin : PySem.W.kitOne K (.ref C_Parts) (.ref C_Builtin) = some (decide (C_Parts = C_Builtin)))
    (oo_Table_Ref : PySem.W.kitOne K (.ref C_Table) (.ref C_Ref) = some (decide (C_Table = C_Ref)))
    (oo_Table_Parts : PySem.W.kitOne K (.ref C_Table) (.ref C_Parts) = some (decide (C_Table = C_Parts)))
    (oo_Table_Table : PySem.W.kitOne K (.ref C_Table) (.ref C_Table) = some (decide (C_Table = C_Table)))
    (oo_Table_Instance : PySem.W.kitOne K (.ref C_Table) (.ref C_Instance) = some (decide (C_Table = C_Instance)))
    (oo_Table_Kin : PySem.W.kitOne K (.ref C_Table) (.ref C_Kin) = some (decide (C_Table = C_Kin)))
    (oo_Table_Builtin : PySem.W.kitOne K (.ref C_Table) (.ref C_Builtin) = some (decide (C_Table = C_Builtin)))
    (oo_Instance_Ref : PySem.W.kitOne K (.ref C_Instance) (.ref C_Ref) = some (decide (C_Instance = C_Ref)))
    (oo_Instance_Parts : PySem.W.kitOne K (.ref C_Instance) (.ref C_Parts) = some (decide (C_Instance = C_Parts)))
    (oo_Instance_Table : PySem.W.kitOne K (.ref C_Instance) (.ref C_Table) = some (decide (C_Instance = C_Table)))
    (oo_Instance_Instance : PySem.W.kitOne K (.ref C_Instance) (.ref C_Instance) = some (decide (C_Instance = C_Instance)))
    (oo_Instance_Kin : PySem.W.kitOne K (.ref C_Instance) (.ref C_Kin) = some (decide (C_Instance = C_Kin)))
    (oo_Instance_Builtin : PySem.W.kitOne K (.ref C_Instance) (.ref C_Builtin) = some (decide (C_Instance = C_Builtin)))
    (oo_Kin_Ref : PySem.W.kitOne K (.ref C_Kin) (.ref C_Ref) = some (decide (C_Kin = C_Ref)))
    (oo_Kin_Parts : PySem.W.kitOne K (.ref C_Kin) (.ref C_Parts) = some (decide (C_Kin = C_Parts)))
    (oo_Kin_Table : PySem.W.kitOne K (.ref C_Kin) (.ref C_Table) = some (decide (C_Kin = C_Table)))
    (oo_Kin_Instance : PySem.W.kitOne K (.ref C_Kin) (.ref C_Instance) = some (decide (C_Kin = C_Instance)))
    (oo_Kin_Kin : PySem.W.kitOne K (.ref C_Kin) (.ref C_Kin) = some (decide (C_Kin = C_Kin)))
    (oo_Kin_Builtin : PySem.W.kitOne K (.ref C_Kin) (.ref C_Builtin) = some (decide (C_Kin = C_Builtin)))
    (oo_Store_Ref : PySem.W.kitOne K (.ref C_Store) (.ref C_Ref) = some (decide (C_Store = C_Ref)))
    (oo_Store_Parts : PySem.W.kitOne K (.ref C_Store) (.ref C_Parts) = some (decide (C_Store = C_Parts)))
    (oo_Store_Table : PySem.W.kitOne K (.ref C_Store) (.ref C_Table) = some (decide (C_Store = C_Table)))
    (oo_Store_Instance : PySem.W.kitOne K (.ref C_Store) (.ref C_Instance) = some (decide (C_Store = C_Instance)))
    (oo_Store_Kin : PySem.W.kitOne K (.ref C_Store) (.ref C_Kin) = some (decide (C_Store = C_Kin)))
    (oo_Store_Builtin : PySem.W.kitOne K (.ref C_Store) (.ref C_Builtin) = some (decide (C_Store = C_Builtin)))
    (oo_Writer_Ref : PySem.W.kitOne K (.ref C_Writer) (.ref C_Ref) = some (decide (C_Writer = C_Ref)))
    (oo_Writer_Parts : PySem.W.kitOne K (.ref C_Writer) (.ref C_Parts) = some (decide (C_Writer = C_Parts)))
    (oo_Writer_Table : PySem.W.kitOne K (.ref C_Writer) (.ref C_Table) = some (decide (C_Writer = C_Table)))
    (oo_Writer_Instance : PySem.W.kitOne K (.ref C_Writer) (.ref C_Instance) = some (decide (C_Writer = C_Instance)))
    (oo_Writer_Kin : PySem.W.kitOne K (.ref C_Writer) (.ref C_Kin) = some (decide (C_Writer = C_Kin)))
    (oo_Writer_Builtin : PySem.W.kitOne K (.ref C_Writer) (.ref C_Builtin) = some (decide (C_Writer = C_Builtin)))
    (bo_NoneType_Ref : PySem.W.kitOne K (.type "NoneType") (.ref C_Ref) = some false)
    (bo_NoneType_Parts : PySem.W.kitOne K (.type "NoneType") (.ref C_Parts) = some false)
    (bo_NoneType_Table : PySem.W.kitOne K (.type "NoneType") (.ref C_Table) = some false)
    (bo_NoneType_Instance : PySem.W.kitOne K (.type "NoneType") (.ref C_Instance) = some false)
    (bo_NoneType_Kin : PySem.W.kitOne K (.type "NoneType") (.ref C_Kin) = some false)
    (bo_NoneType_Builtin : PySem.W.kitOne K (.type "NoneType") (.ref C_Builtin) = some false)
    (bo_bool_Ref : PySem.W.kitOne K (.type "bool") (.ref C_Ref) = some false)
    (bo_bool_Parts : PySem.W.kitOne K (.type "bool") (.ref C_Parts) = some false)
    (bo_bool_Table : PySem.W.kitOne K (.type "bool") (.ref C_Table) = some false)
    (bo_bool_Instance : PySem.W.kitOne K (.type "bool") (.ref C_Instance) = some false)
    (bo_bool_Kin : PySem.W.kitOne K (.type "bool") (.ref C_Kin) = some false)
    (bo_bool_Builtin : PySem.W.kitOne K (.type "bool") (.ref C_Builtin) = some false)
    (bo_int_Ref : PySem.W.kitOne K (.type "int") (.ref C_Ref) = some false)
    (bo_int_Parts : PySem.W.kitOne K (.type "int") (.ref C_Parts) = some false)
    (bo_int_Table : PySem.W.kitOne K (.type "int") (.ref C_Table) = some false)
    (bo_int_Instance : PySem.W.kitOne K (.type "int") (.ref C_Instance) = some false)
    (bo_int_Kin : PySem.W.kitOne K (.type "int") (.ref C_Kin) = some false)
    (bo_int_Builtin : PySem.W.kitOne K (.type "int") (.ref C_Builtin) = some false)
    (bo_str_Ref : PySem.W.kitOne K (.type "str") (.ref C_Ref) = some false)
    (bo_str_Parts : PySem.W.kitOne K (.type "str") (.ref C_Parts) = some false)
    (bo_str_Table : PySem.W.kitOne K (.type "str") (.ref C_Table) = some false)
    (bo_str_Instance : PySem.W.kitOne K (.type "str") (.ref C_Instance) = some false)
    (bo_str_Kin : PySem.W.kitOne K (.type "str") (.ref C_Kin) = some false)
    (bo_str_Builtin : PySem.W.kitOne K (.type "str") (.ref C_Builtin) = some false)
    (bo_list_Ref : PySem.W.kitOne K (.type "list") (.ref C_Ref) = some false)
    (bo_list_Parts : PySem.W.kitOne K (.type "list") (.ref C_Parts) = some false)
    (bo_list_Table : PySem.W.kitOne K (.type "list") (.ref C_Table) = some false)
    (bo_list_Instance : PySem.W.kitOne K (.type "list") (.ref C_Instance) = some false)
    (bo_list_Kin : PySem.W.kitOne K (.type "list") (.ref C_Kin) = some false)
    (bo_list_Builtin : PySem.W.kitOne K (.type "list") (.ref C_Builtin) = some false)
    (bo_tuple_Ref : PySem.W.kitOne K (.type "tuple") (.ref C_Ref) = some false)
    (bo_tuple_Parts : PySem.W.kitOne K (.type "tuple") (.ref C_Parts) = some false)
    (bo_tuple_Table : PySem.W.kitOne K (.type "tuple") (.ref C_Table) = some false)
    (bo_tuple_Instance : PySem.W.kitOne K (.type "tuple") (.ref C_Instance) = some false)
    (bo_tuple_Kin : PySem.W.kitOne K (.type "tuple") (.ref C_Kin) = some false)
    (bo_tuple_Builtin : PySem.W.kitOne K (.type "tuple") (.ref C_Builtin) = some false)
    (bo_dict_Ref : PySem.W.kitOne K (.type "dict") (.ref C_Ref) = some false)
    (bo_dict_Parts : PySem.W.kitOne K (.type "dict") (.ref C_Parts) = some false)
    (bo_dict_Table : PySem.W.kitOne K (.type "dict") (.ref C_Table) = some false)
    (bo_dict_Instance : PySem.W.kitOne K (.type "dict") (.ref C_Instance) = some false)
    (bo_dict_Kin : PySem.W.kitOne K (.type "dict") (.ref C_Kin) = some false)
    (bo_dict_Builtin : PySem.W.kitOne K (.type "dict") (.ref C_Builtin) = some false)
    (ob_Ref_bool : PySem.W.kitOne K (.ref C_Ref) (.type "bool") = some false)
    (ob_Ref_int : PySem.W.kitOne K (.ref C_Ref) (.type "int") = some false)
    (ob_Ref_str : PySem.W.kitOne K (.ref C_Ref) (.type "str") = some false)
    (ob_Ref_list : PySem.W.kitOne K (.ref C_Ref) (.type "list") = some false)
    (ob_Ref_tuple : PySem.W.kitOne K (.ref C_Ref) (.type "tuple") = some false)
    (ob_Ref_dict : PySem.W.kitOne K (.ref C_Ref) (.type "dict") = some false)
    (ob_Builtin_bool : PySem.W.kitOne K (.ref C_Builtin) (.type "bool") = some false)
    (ob_Builtin_int : PySem.W.kitOne K (.ref C_Builtin) (.type "int") = some false)
    (ob_Builtin_str : PySem.W.kitOne K (.ref C_Builtin) (.type "str") = some false)
    (ob_Builtin_list : PySem.W.kitOne K (.ref C_Builtin) (.type "list") = some false)
    (ob_Builtin_tuple : PySem.W.kitOne K (.ref C_Builtin) (.type "tuple") = some false)
    (ob_Builtin_dict : PySem.W.kitOne K (.ref C_Builtin) (.type "dict") = some false)
    (ob_Parts_bool : PySem.W.kitOne K (.ref C_Parts) (.type "bool") = some false)
    (ob_Parts_int : PySem.W.kitOne K (.ref C_Parts) (.type "int") = some false)
    (ob_Parts_str : PySem.W.kitOne K (.ref C_Parts) (.type "str") = some false)
    (ob_Parts_list : PySem.W.kitOne K (.ref C_Parts) (.type "list") = some false)
    (ob_Parts_tuple : PySem.W.kitOne K (.ref C_Parts) (.type "tuple") = some false)
    (ob_Parts_dict : PySem.W.kitOne K (.ref C_Parts) (.type "dict") = some false)
    (ob_Table_bool : PySem.W.kitOne K (.ref C_Table) (.type "bool") = some false)
    (ob_Table_int : PySem.W.kitOne K (.ref C_Table) (.type "int") = some false)
    (ob_Table_str : PySem.W.kitOne K (.ref C_Table) (.type "str") = some false)
    (ob_Table_list : PySem.W.kitOne K (.ref C_Table) (.type "list") = some false)
    (ob_Table_tuple : PySem.W.kitOne K (.ref C_Table) (.type "tuple") = some false)
    (ob_Table_dict : PySem.W.kitOne K (.ref C_Table) (.type "dict") = some false)
    (ob_Instance_bool : PySem.W.kitOne K (.ref C_Instance) (.type "bool") = some false)
    (ob_Instance_int : PySem.W.kitOne K (.ref C_Instance) (.type "int") = some false)
    (ob_Instance_str : PySem.W.kitOne K (.ref C_Instance) (.type "str") = some false)
    (ob_Instance_list : PySem.W.kitOne K (.ref C_Instance) (.type "list") = some false)
    (ob_Instance_tuple : PySem.W.kitOne K (.ref C_Instance) (.type "tuple") = some false)
    (ob_Instance_dict : PySem.W.kitOne K (.ref C_Instance) (.type "dict") = some false)
    (ob_Kin_bool : PySem.W.kitOne K (.ref C_Kin) (.type "bool") = some false)
    (ob_Kin_int : PySem.W.kitOne K (.ref C_Kin) (.type "int") = some false)
    (ob_Kin_str : PySem.W.kitOne K (.ref C_Kin) (.type "str") = some false)
    (ob_Kin_list : PySem.W.kitOne K (.ref C_Kin) (.type "list") = some false)
    (ob_Kin_tuple : PySem.W.kitOne K (.ref C_Kin) (.type "tuple") = some false)
    (ob_Kin_dict : PySem.W.kitOne K (.ref C_Kin) (.type "dict") = some false)
    (ob_Store_bool : PySem.W.kitOne K (.ref C_Store) (.type "bool") = some false)
    (ob_Store_int : PySem.W.kitOne K (.ref C_Store) (.type "int") = some false)
    (ob_Store_str : PySem.W.kitOne K (.ref C_Store) (.type "str") = some false)
    (ob_Store_list : PySem.W.kitOne K (.ref C_Store) (.type "list") = some false)
    (ob_Store_tuple : PySem.W.kitOne K (.ref C_Store) (.type "tuple") = some false)
    (ob_Store_dict : PySem.W.kitOne K (.ref C_Store) (.type "dict") = some false)
    (ob_Writer_bool : PySem.W.kitOne K (.ref C_Writer) (.type "bool") = some false)
    (ob_Writer_int : PySem.W.kitOne K (.ref C_Writer) (.type "int") = some false)
    (ob_Writer_str : PySem.W.kitOne K (.ref C_Writer) (.type "str") = some false)
    (ob_Writer_list : PySem.W.kitOne K (.ref C_Writer) (.type "list") = some false)
    (ob_Writer_tuple : PySem.W.kitOne K (.ref C_Writer) (.type "tuple") = some false)
    (ob_Writer_dict : PySem.W.kitOne K (.ref C_Writer) (.type "dict") = some false)
    (ne_Ref_Builtin : C_Ref ≠ C_Builtin)
    (ne_Ref_Parts : C_Ref ≠ C_Parts)
    (ne_Ref_Table : C_Ref ≠ C_Table)
    (ne_Ref_Instance : C_Ref ≠ C_Instance)
    (ne_Ref_Kin : C_Ref ≠ C_Kin)
    (ne_Ref_Store : C_Ref ≠ C_Store)
    (ne_Ref_Writer : C_Ref ≠ C_Writer)
    (ne_Builtin_Parts : C_Builtin ≠ C_Parts)
    (ne_Builtin_Table : C_Builtin ≠ C_Table)
    (ne_Builtin_Instance : C_Builtin ≠ C_Instance)
    (ne_Builtin_Kin : C_Builtin ≠ C_Kin)
    (ne_Builtin_Store : C_Builtin ≠ C_Store)
    (ne_Builtin_Writer : C_Builtin ≠ C_Writer)
    (ne_Parts_Table : C_Parts ≠ C_Table)
    (ne_Parts_Instance : C_Parts ≠ C_Instance)
    (ne_Parts_Kin : C_Parts ≠ C_Kin)
    (ne_Parts_Store : C_Parts ≠ C_Store)
    (ne_Parts_Writer : C_Parts ≠ C_Writer)
    (ne_Table_Instance : C_Table ≠ C_Instance)
    (ne_Table_Kin : C_Table ≠ C_Kin)
    (ne_Table_Store : C_Table ≠ C_Store)
    (ne_Table_Writer : C_Table ≠ C_Writer)
    (ne_Instance_Kin : C_Instance ≠ C_Kin)
    (ne_Instance_Store : C_Instance ≠ C_Store)
    (ne_Instance_Writer : C_Instance ≠ C_Writer)
    (ne_Kin_Store : C_Kin ≠ C_Store)
    (ne_Kin_Writer : C_Kin ≠ C_Writer)
    (ne_Store_Writer : C_Store ≠ C_Writer)
    (gd_LIST_KINDS : GDictTF K w "LIST_KINDS" [("push", some [.str "any"])]) (gd_MAP_KINDS : GDictTF K w "MAP_KINDS" [("has", some [.str "key"]), ("remove", some [.str "key"]), ("keys", some []), ("values", some []), ("items", some []), ("get", some [.str "key", .str "any"]), ("merge", some [.str "map"]), ("copy", some []), ("clear", some []), ("length", some [])]) (gd_TEXT_KINDS : GDictTF K w "TEXT_KINDS" [("push", none)])
    (f0 : FnFact K "_law_cell" "_law_cell" s_law_cell) (f1 : FnFact K "_law_begin" "_law_begin" s_law_begin) (f2 : FnFact K "_law_draw" "_law_draw" s_law_draw) (f3 : MFact K C_Ref "__init__" "Ref.__init__" s_Ref___init__) (f4 : MFact K C_Builtin "__init__" "Builtin.__init__" s_Builtin___init__) (f5 : MFact K C_Instance "__init__" "Instance.__init__" s_Instance___init__) (f6 : MFact K C_Kin "__init__" "Kin.__init__" s_Kin___init__) (f7 : MFact K C_Parts "__init__" "Parts.__init__" s_Parts___init__) (f8 : EFact K C_ScriptError  "ScriptError.__init__" s_ScriptError___init__) (f9 : MFact K C_Table "__init__" "Table.__init__" s_Table___init__) (f10 : FnFact K "key_of" "key_of" s_key_of) (f11 : MFact K C_Table "has" "Table.has" s_Table_has) (f12 : MFact K C_Table "value_of" "Table.value_of" s_Table_value_of) (f13 : MFact K C_Table "put" "Table.put" s_Table_put) (f14 : MFact K C_Table "take_out" "Table.take_out" s_Table_take_out) (f15 : PFact K C_Table "many" "Table.many" s_Table_many) (f16 : MFact K C_Table "pairs" "Table.pairs" s_Table_pairs) (f17 : MFact K C_Store "__init__" "Store.__init__" s_Store___init__) (f18 : MFact K C_Store "make" "Store.make" s_Store_make) (f19 : MFact K C_Store "at" "Store.at" s_Store_at) (f20 : FnFact K "thing_of" "thing_of" s_thing_of) (f21 : FnFact K "kind_of" "kind_of" s_kind_of) (f22 : FnFact K "check_parts" "check_parts" s_check_parts) (f23 : FnFact K "make_list" "make_list" s_make_list) (f24 : FnFact K "_law_pick" "_law_pick" s_law_pick) (f25 : FnFact K "equal" "equal" s_equal) (f26 : FnFact K "check_kinds" "check_kinds" s_check_kinds) (f27 : FnFact K "check_count" "check_count" s_check_count) (f28 : FnFact K "is_key" "is_key" s_is_key) (f29 : FnFact K "checked_key" "checked_key" s_checked_key) (f30 : FnFact K "put_key" "put_key" s_put_key) (f31 : FnFact K "make_map" "make_map" s_make_map) (f32 : FnFact K "get_item" "get_item" s_get_item) (f33 : FnFact K "set_item" "set_item" s_set_item) (f34 : FnFact K "remove_key" "remove_key" s_remove_key) (f35 : FnFact K "merge_into" "merge_into" s_merge_into) (f36 : FnFact K "clear_all" "clear_all" s_clear_all) (f37 : FnFact K "copy_of" "copy_of" s_copy_of) (f38 : FnFact K "listed" "listed" s_listed) (f39 : FnFact K "call_map" "call_map" s_call_map) (f40 : FnFact K "call_method" "call_method" s_call_method) (f41 : MFact K C_Ref "__eq__" "Ref.__eq__" s_Ref___eq__) (f42 : MFact K C_Builtin "__eq__" "Builtin.__eq__" s_Builtin___eq__) (f43 : FnFact K "_law_same" "_law_same" s_law_same) (f44 : FnFact K "_law_key" "_law_key" s_law_key) (f45 : FnFact K "_law_at" "_law_at" s_law_at) (f46 : FnFact K "_law_put" "_law_put" s_law_put) (f47 : FnFact K "_law_pairs" "_law_pairs" s_law_pairs) (f48 : FnFact K "_law_is" "_law_is" s_law_is) (f49 : FnFact K "_law_try" "_law_try" s_law_try) (f50 : FnFact K "_law_taken" "_law_taken" s_law_taken) (f51 : FnFact K "_law_set" "_law_set" s_law_set) (f52 : FnFact K "_law_read" "_law_read" s_law_read) (f53 : FnFact K "_law_listed" "_law_listed" s_law_listed) (f54 : FnFact K "_law_merged" "_law_merged" s_law_merged) (f55 : FnFact K "_law_step" "_law_step" s_law_step) (f56 : FnFact K "law" "law" s_law)
    (z_abs : PySem.W.nsIn K mainGlobals "abs" = some none) (z_bool : PySem.W.nsIn K mainGlobals "bool" = some none) (z_dict : PySem.W.nsIn K mainGlobals "dict" = some none) (z_enumerate : PySem.W.nsIn K mainGlobals "enumerate" = some none) (z_int : PySem.W.nsIn K mainGlobals "int" = some none) (z_isinstance : PySem.W.nsIn K mainGlobals "isinstance" = some none) (z_len : PySem.W.nsIn K mainGlobals "len" = some none) (z_list : PySem.W.nsIn K mainGlobals "list" = some none) (z_max : PySem.W.nsIn K mainGlobals "max" = some none) (z_min : PySem.W.nsIn K mainGlobals "min" = some none) (z_range : PySem.W.nsIn K mainGlobals "range" = some none) (z_str : PySem.W.nsIn K mainGlobals "str" = some none) (z_tuple : PySem.W.nsIn K mainGlobals "tuple" = some none) (z_zip : PySem.W.nsIn K mainGlobals "zip" = some none)
    (q_ERROR : ∃ t, PySem.W.nsIn K mainGlobals "ERROR" = some (some (.str "Error" t))) (q_MOST_PARTS : ∃ t, PySem.W.nsIn K mainGlobals "MOST_PARTS" = some (some (.int 1000 t))) :
    ∃ fd : FuncData, (∀ (s : Shared) (v : Value), BindsTo s fd ⟨[v], []⟩ [("script", v)]) ∧ ∀ base : Heap, K.In base → base.Ns mainGlobals mg → FnOk P w K mg base CX0 11 fa fd ["script"] (spLaw K) := by
  have T : Txt K mg ⟨C_Ref, C_Builtin, C_Parts, C_Table, C_Instance, C_Kin, C_Store, C_Writer, C_LivequillError, C_ScriptError⟩ := ⟨PySem.W.mg_none_of X G z_abs,
    PySem.W.mg_none_of X G z_bool,
    PySem.W.mg_none_of X G z_dict,
    PySem.W.mg_none_of X G z_enumerate,
    PySem.W.mg_none_of X G z_int,
    PySem.W.mg_none_of X G z_isinstance,
    PySem.W.mg_none_of X G z_len,
    PySem.W.mg_none_of X G z_list,
    PySem.W.mg_none_of X G z_max,
    PySem.W.mg_none_of X G z_min,
    PySem.W.mg_none_of X G z_range,
    PySem.W.mg_none_of X G z_str,
    PySem.W.mg_none_of X G z_tuple,
    PySem.W.mg_none_of X G z_zip,
    (let ⟨t, h⟩ := q_ERROR; ⟨t, PySem.W.mg_of X G h⟩),
    (let ⟨t, h⟩ := q_MOST_PARTS; ⟨t, PySem.W.mg_of X G h⟩),
    PySem.W.mg_of X G n_Ref,
    x_Ref.cls,
    ⟨x_Ref.mks, x_Ref.kp, PySem.W.mg_of X G n_Ref⟩,
    PySem.W.mg_of X G n_Builtin,
    x_Builtin.cls,
    ⟨x_Builtin.mks, x_Builtin.kp, PySem.W.mg_of X G n_Builtin⟩,
    PySem.W.mg_of X G n_Parts,
    x_Parts.cls,
    ⟨x_Parts.mks, x_Parts.kp, PySem.W.mg_of X G n_Parts⟩,
    PySem.W.mg_of X G n_Table,
    x_Table.cls,
    ⟨x_Table.mks, x_Table.kp, PySem.W.mg_of X G n_Table⟩,
    PySem.W.mg_of X G n_Instance,
    x_Instance.cls,
    ⟨x_Instance.mks, x_Instance.kp, PySem.W.mg_of X G n_Instance⟩,
    PySem.W.mg_of X G n_Kin,
    x_Kin.cls,
    ⟨x_Kin.mks, x_Kin.kp, PySem.W.mg_of X G n_Kin⟩,
    PySem.W.mg_of X G n_Store,
    x_Store.cls,
    ⟨x_Store.mks, x_Store.kp, PySem.W.mg_of X G n_Store⟩,
    PySem.W.mg_of X G n_Writer,
    x_Writer.cls,
    ⟨x_Writer.mks, x_Writer.kp, PySem.W.mg_of X G n_Writer⟩,
    (all_cons ⟨x_Table.cls, na__rows_Table⟩ all_nil),
    (all_cons ⟨x_Parts.cls, na_held_Parts⟩ all_nil),
    (all_cons ⟨x_Store.cls, na_lines_Store⟩ all_nil),
    (all_cons ⟨x_Kin.cls, na_methods_Kin⟩ all_nil),
    (all_cons ⟨x_Builtin.cls, na_name_Builtin⟩ (all_cons ⟨x_Kin.cls, na_name_Kin⟩ all_nil)),
    (all_cons ⟨x_Instance.cls, na_named_Instance⟩ all_nil),
    (all_cons ⟨x_Ref.cls, na_number_Ref⟩ all_nil),
    (all_cons ⟨x_Store.cls, na_output_Store⟩ all_nil),
    (all_cons ⟨x_Instance.cls, na_owner_Instance⟩ all_nil),
    (all_cons ⟨x_Kin.cls, na_parent_Kin⟩ all_nil),
    (all_cons ⟨x_Store.cls, na_taken_Store⟩ all_nil),
    (all_cons ⟨x_Store.cls, na_things_Store⟩ all_nil),
    (all_cons ⟨x_ScriptError.xf, xn_kind_ScriptError⟩ all_nil),
    (all_cons ⟨x_ScriptError.xf, xn_message_ScriptError⟩ all_nil),
    (all_cons x_LivequillError (all_cons x_ScriptError all_nil)),
    PySem.W.mg_of X G n_LivequillError,
    PySem.W.mg_of X G n_ScriptError,
    xn_kind_ScriptError,
    xn_message_ScriptError,
    PySem.W.exm_ref x_ScriptError.exC x_ScriptError.hdC x_ScriptError.tyC em_ScriptError_ScriptError,
    ob,
    ⟨(all_cons (x_Ref.ocls ob) (all_cons (x_Builtin.ocls ob) (all_cons (x_Parts.ocls ob) (all_cons (x_Table.ocls ob) (all_cons (x_Instance.ocls ob) (all_cons (x_Kin.ocls ob) (all_cons (x_Store.ocls ob) (all_cons (x_Writer.ocls ob) all_nil)))))))), (all_cons (all_cons oo_Ref_Ref (all_cons oo_Ref_Parts (all_cons oo_Ref_Table (all_cons oo_Ref_Instance (all_cons oo_Ref_Kin (all_cons oo_Ref_Builtin all_nil)))))) (all_cons (all_cons oo_Builtin_Ref (all_cons oo_Builtin_Parts (all_cons oo_Builtin_Table (all_cons oo_Builtin_Instance (all_cons oo_Builtin_Kin (all_cons oo_Builtin_Builtin all_nil)))))) (all_cons (all_cons oo_Parts_Ref (all_cons oo_Parts_Parts (all_cons oo_Parts_Table (all_cons oo_Parts_Instance (all_cons oo_Parts_Kin (all_cons oo_Parts_Builtin all_nil)))))) (all_cons (all_cons oo_Table_Ref (all_cons oo_Table_Parts (all_cons oo_Table_Table (all_cons oo_Table_Instance (all_cons oo_Table_Kin (all_cons oo_Table_Builtin all_nil)))))) (all_cons (all_cons oo_Instance_Ref (all_cons oo_Instance_Parts (all_cons oo_Instance_Table (all_cons oo_Instance_Instance (all_cons oo_Instance_Kin (all_cons oo_Instance_Builtin all_nil)))))) (all_cons (all_cons oo_Kin_Ref (all_cons oo_Kin_Parts (all_cons oo_Kin_Table (all_cons oo_Kin_Instance (all_cons oo_Kin_Kin (all_cons oo_Kin_Builtin all_nil)))))) (all_cons (all_cons oo_Store_Ref (all_cons oo_Store_Parts (all_cons oo_Store_Table (all_cons oo_Store_Instance (all_cons oo_Store_Kin (all_cons oo_Store_Builtin all_nil)))))) (all_cons (all_cons oo_Writer_Ref (all_cons oo_Writer_Parts (all_cons oo_Writer_Table (all_cons oo_Writer_Instance (all_cons oo_Writer_Kin (all_cons oo_Writer_Builtin all_nil)))))) all_nil)))))))), (all_cons (all_cons bo_NoneType_Ref (all_cons bo_NoneType_Parts (all_cons bo_NoneType_Table (all_cons bo_NoneType_Instance (all_cons bo_NoneType_Kin (all_cons bo_NoneType_Builtin all_nil)))))) (all_cons (all_cons bo_bool_Ref (all_cons bo_bool_Parts (all_cons bo_bool_Table (all_cons bo_bool_Instance (all_cons bo_bool_Kin (all_cons bo_bool_Builtin all_nil)))))) (all_cons (all_cons bo_int_Ref (all_cons bo_int_Parts (all_cons bo_int_Table (all_cons bo_int_Instance (all_cons bo_int_Kin (all_cons bo_int_Builtin all_nil)))))) (all_cons (all_cons bo_str_Ref (all_cons bo_str_Parts (all_cons bo_str_Table (all_cons bo_str_Instance (all_cons bo_str_Kin (all_cons bo_str_Builtin all_nil)))))) (all_cons (all_cons bo_list_Ref (all_cons bo_list_Parts (all_cons bo_list_Table (all_cons bo_list_Instance (all_cons bo_list_Kin (all_cons bo_list_Builtin all_nil)))))) (all_cons (all_cons bo_tuple_Ref (all_cons bo_tuple_Parts (all_cons bo_tuple_Table (all_cons bo_tuple_Instance (all_cons bo_tuple_Kin (all_cons bo_tuple_Builtin all_nil)))))) (all_cons (all_cons bo_dict_Ref (all_cons bo_dict_Parts (all_cons bo_dict_Table (all_cons bo_dict_Instance (all_cons bo_dict_Kin (all_cons bo_dict_Builtin all_nil)))))) all_nil))))))), (all_cons (all_cons ob_Ref_bool (all_cons ob_Ref_int (all_cons ob_Ref_str (all_cons ob_Ref_list (all_cons ob_Ref_tuple (all_cons ob_Ref_dict all_nil)))))) (all_cons (all_cons ob_Builtin_bool (all_cons ob_Builtin_int (all_cons ob_Builtin_str (all_cons ob_Builtin_list (all_cons ob_Builtin_tuple (all_cons ob_Builtin_dict all_nil)))))) (all_cons (all_cons ob_Parts_bool (all_cons ob_Parts_int (all_cons ob_Parts_str (all_cons ob_Parts_list (all_cons ob_Parts_tuple (all_cons ob_Parts_dict all_nil)))))) (all_cons (all_cons ob_Table_bool (all_cons ob_Table_int (all_cons ob_Table_str (all_cons ob_Table_list (all_cons ob_Table_tuple (all_cons ob_Table_dict all_nil)))))) (all_cons (all_cons ob_Instance_bool (all_cons ob_Instance_int (all_cons ob_Instance_str (all_cons ob_Instance_list (all_cons ob_Instance_tuple (all_cons ob_Instance_dict all_nil)))))) (all_cons (all_cons ob_Kin_bool (all_cons ob_Kin_int (all_cons ob_Kin_str (all_cons ob_Kin_list (all_cons ob_Kin_tuple (all_cons ob_Kin_dict all_nil)))))) (all_cons (all_cons ob_Store_bool (all_cons ob_Store_int (all_cons ob_Store_str (all_cons ob_Store_list (all_cons ob_Store_tuple (all_cons ob_Store_dict all_nil)))))) (all_cons (all_cons ob_Writer_bool (all_cons ob_Writer_int (all_cons ob_Writer_str (all_cons ob_Writer_list (all_cons ob_Writer_tuple (all_cons ob_Writer_dict all_nil)))))) all_nil))))))))⟩,
    ⟨eq_false ne_Ref_Builtin, eq_false ne_Ref_Parts, eq_false ne_Ref_Table, eq_false ne_Ref_Instance, eq_false ne_Ref_Kin, eq_false ne_Ref_Store, eq_false ne_Ref_Writer, eq_false (fun h => ne_Ref_Builtin h.symm), eq_false ne_Builtin_Parts, eq_false ne_Builtin_Table, eq_false ne_Builtin_Instance, eq_false ne_Builtin_Kin, eq_false ne_Builtin_Store, eq_false ne_Builtin_Writer, eq_false (fun h => ne_Ref_Parts h.symm), eq_false (fun h => ne_Builtin_Parts h.symm), eq_false ne_Parts_Table, eq_false ne_Parts_Instance, eq_false ne_Parts_Kin, eq_false ne_Parts_Store, eq_false ne_Parts_Writer, eq_false (fun h => ne_Ref_Table h.symm), eq_false (fun h => ne_Builtin_Table h.symm), eq_false (fun h => ne_Parts_Table h.symm), eq_false ne_Table_Instance, eq_false ne_Table_Kin, eq_false ne_Table_Store, eq_false ne_Table_Writer, eq_false (fun h => ne_Ref_Instance h.symm), eq_false (fun h => ne_Builtin_Instance h.symm), eq_false (fun h => ne_Parts_Instance h.symm), eq_false (fun h => ne_Table_Instance h.symm), eq_false ne_Instance_Kin, eq_false ne_Instance_Store, eq_false ne_Instance_Writer, eq_false (fun h => ne_Ref_Kin h.symm), eq_false (fun h => ne_Builtin_Kin h.symm), eq_false (fun h => ne_Parts_Kin h.symm), eq_false (fun h => ne_Table_Kin h.symm), eq_false (fun h => ne_Instance_Kin h.symm), eq_false ne_Kin_Store, eq_false ne_Kin_Writer, eq_false (fun h => ne_Ref_Store h.symm), eq_false (fun h => ne_Builtin_Store h.symm), eq_false (fun h => ne_Parts_Store h.symm), eq_false (fun h => ne_Table_Store h.symm), eq_false (fun h => ne_Instance_Store h.symm), eq_false (fun h => ne_Kin_Store h.symm), eq_false ne_Store_Writer, eq_false (fun h => ne_Ref_Writer h.symm), eq_false (fun h => ne_Builtin_Writer h.symm), eq_false (fun h => ne_Parts_Writer h.symm), eq_false (fun h => ne_Table_Writer h.symm), eq_false (fun h => ne_Instance_Writer h.symm), eq_false (fun h => ne_Kin_Writer h.symm), eq_false (fun h => ne_Store_Writer h.symm)⟩⟩
  have TD : TxD w K mg := ⟨gd_LIST_KINDS.get X G, gd_MAP_KINDS.get X G, gd_TEXT_KINDS.get X G⟩
  have a0 : At K mg "_law_cell" "_law_cell" s_law_cell ["script", "k"] := At.of X G f0 fun _ _ _ _ _ _ us hl => match us, hl with | [_, _], _ => rfl
  have a1 : At K mg "_law_begin" "_law_begin" s_law_begin ["script", "k"] := At.of X G f1 fun _ _ _ _ _ _ us hl => match us, hl with | [_, _], _ => rfl
  have a2 : At K mg "_law_draw" "_law_draw" s_law_draw ["state", "many"] := At.of X G f2 fun _ _ _ _ _ _ us hl => match us, hl with | [_, _], _ => rfl
  have a3 : AtM K C_Ref "__init__" "Ref.__init__" s_Ref___init__ ["self", "number"] := AtM.of f3 fun _ _ _ _ _ _ us hl => match us, hl with | [_, _], _ => rfl
  have a4 : AtM K C_Builtin "__init__" "Builtin.__init__" s_Builtin___init__ ["self", "name"] := AtM.of f4 fun _ _ _ _ _ _ us hl => match us, hl with | [_, _], _ => rfl
  have a5 : AtM K C_Instance "__init__" "Instance.__init__" s_Instance___init__ ["self", "owner"] := AtM.of f5 fun _ _ _ _ _ _ us hl => match us, hl with | [_, _], _ => rfl
  have a6 : AtM K C_Kin "__init__" "Kin.__init__" s_Kin___init__ ["self", "name", "parent"] := AtM.of f6 fun _ _ _ _ _ _ us hl => match us, hl with | [_, _, _], _ => rfl
  have a7 : AtM K C_Parts "__init__" "Parts.__init__" s_Parts___init__ ["self", "held"] := AtM.of f7 fun _ _ _ _ _ _ us hl => match us, hl with | [_, _], _ => rfl
  have a8 : AtE K C_ScriptError "ScriptError.__init__" s_ScriptError___init__ ["self", "kind", "message"] := AtE.of f8 fun _ _ _ _ _ _ us hl => match us, hl with | [_, _, _], _ => rfl
  have a9 : AtM K C_Table "__init__" "Table.__init__" s_Table___init__ ["self"] := AtM.of f9 fun _ _ _ _ _ _ us hl => match us, hl with | [_], _ => rfl
  have a10 : At K mg "key_of" "key_of" s_key_of ["value"] := At.of X G f10 fun _ _ _ _ _ _ us hl => match us, hl with | [_], _ => rfl
  have a11 : AtM K C_Table "has" "Table.has" s_Table_has ["self", "key"] := AtM.of f11 fun _ _ _ _ _ _ us hl => match us, hl with | [_, _], _ => rfl
  have a12 : AtM K C_Table "value_of" "Table.value_of" s_Table_value_of ["self", "key"] := AtM.of f12 fun _ _ _ _ _ _ us hl => match us, hl with | [_, _], _ => rfl
  have a13 : AtM K C_Table "put" "Table.put" s_Table_put ["self", "key", "value"] := AtM.of f13 fun _ _ _ _ _ _ us hl => match us, hl with | [_, _, _], _ => rfl
  have a14 : AtM K C_Table "take_out" "Table.take_out" s_Table_take_out ["self", "key"] := AtM.of f14 fun _ _ _ _ _ _ us hl => match us, hl with | [_, _], _ => rfl
  have a15 : AtP K C_Table "many" "Table.many" s_Table_many ["self"] := AtP.of f15 fun _ _ _ _ _ _ us hl => match us, hl with | [_], _ => rfl
  have a16 : AtM K C_Table "pairs" "Table.pairs" s_Table_pairs ["self"] := AtM.of f16 fun _ _ _ _ _ _ us hl => match us, hl with | [_], _ => rfl
  have a17 : AtM K C_Store "__init__" "Store.__init__" s_Store___init__ ["self", "lines"] := AtM.of f17 fun _ _ _ _ _ _ us hl => match us, hl with | [_, _], _ => rfl
  have a18 : AtM K C_Store "make" "Store.make" s_Store_make ["self", "thing"] := AtM.of f18 fun _ _ _ _ _ _ us hl => match us, hl with | [_, _], _ => rfl
  have a19 : AtM K C_Store "at" "Store.at" s_Store_at ["self", "ref"] := AtM.of f19 fun _ _ _ _ _ _ us hl => match us, hl with | [_, _], _ => rfl
  have a20 : At K mg "thing_of" "thing_of" s_thing_of ["store", "value"] := At.of X G f20 fun _ _ _ _ _ _ us hl => match us, hl with | [_, _], _ => rfl
  have a21 : At K mg "kind_of" "kind_of" s_kind_of ["store", "value"] := At.of X G f21 fun _ _ _ _ _ _ us hl => match us, hl with | [_, _], _ => rfl
  have a22 : At K mg "check_parts" "check_parts" s_check_parts ["count"] := At.of X G f22 fun _ _ _ _ _ _ us hl => match us, hl with | [_], _ => rfl
  have a23 : At K mg "make_list" "make_list" s_make_list ["store", "values"] := At.of X G f23 fun _ _ _ _ _ _ us hl => match us, hl with | [_, _], _ => rfl
  have a24 : At K mg "_law_pick" "_law_pick" s_law_pick ["state", "row"] := At.of X G f24 fun _ _ _ _ _ _ us hl => match us, hl with | [_, _], _ => rfl
  have a25 : At K mg "equal" "equal" s_equal ["x", "y"] := At.of X G f25 fun _ _ _ _ _ _ us hl => match us, hl with | [_, _], _ => rfl
  have a26 : At K mg "check_kinds" "check_kinds" s_check_kinds ["store", "values", "kinds"] := At.of X G f26 fun _ _ _ _ _ _ us hl => match us, hl with | [_, _, _], _ => rfl
  have a27 : At K mg "check_count" "check_count" s_check_count ["values", "wanted"] := At.of X G f27 fun _ _ _ _ _ _ us hl => match us, hl with | [_, _], _ => rfl
  have a28 : At K mg "is_key" "is_key" s_is_key ["value"] := At.of X G f28 fun _ _ _ _ _ _ us hl => match us, hl with | [_], _ => rfl
  have a29 : At K mg "checked_key" "checked_key" s_checked_key ["i"] := At.of X G f29 fun _ _ _ _ _ _ us hl => match us, hl with | [_], _ => rfl
  have a30 : At K mg "put_key" "put_key" s_put_key ["table", "key", "value"] := At.of X G f30 fun _ _ _ _ _ _ us hl => match us, hl with | [_, _, _], _ => rfl
  have a31 : At K mg "make_map" "make_map" s_make_map ["store", "pairs"] := At.of X G f31 fun _ _ _ _ _ _ us hl => match us, hl with | [_, _], _ => rfl
  have a32 : At K mg "get_item" "get_item" s_get_item ["store", "x", "i"] := At.of X G f32 fun _ _ _ _ _ _ us hl => match us, hl with | [_, _, _], _ => rfl
  have a33 : At K mg "set_item" "set_item" s_set_item ["store", "x", "i", "value"] := At.of X G f33 fun _ _ _ _ _ _ us hl => match us, hl with | [_, _, _, _], _ => rfl
  have a34 : At K mg "remove_key" "remove_key" s_remove_key ["table", "key"] := At.of X G f34 fun _ _ _ _ _ _ us hl => match us, hl with | [_, _], _ => rfl
  have a35 : At K mg "merge_into" "merge_into" s_merge_into ["table", "other"] := At.of X G f35 fun _ _ _ _ _ _ us hl => match us, hl with | [_, _], _ => rfl
  have a36 : At K mg "clear_all" "clear_all" s_clear_all ["table"] := At.of X G f36 fun _ _ _ _ _ _ us hl => match us, hl with | [_], _ => rfl
  have a37 : At K mg "copy_of" "copy_of" s_copy_of ["store", "table"] := At.of X G f37 fun _ _ _ _ _ _ us hl => match us, hl with | [_, _], _ => rfl
  have a38 : At K mg "listed" "listed" s_listed ["store", "table", "name"] := At.of X G f38 fun _ _ _ _ _ _ us hl => match us, hl with | [_, _, _], _ => rfl
  have a39 : At K mg "call_map" "call_map" s_call_map ["store", "table", "name", "values"] := At.of X G f39 fun _ _ _ _ _ _ us hl => match us, hl with | [_, _, _, _], _ => rfl
  have a40 : At K mg "call_method" "call_method" s_call_method ["store", "x", "name", "values"] := At.of X G f40 fun _ _ _ _ _ _ us hl => match us, hl with | [_, _, _, _], _ => rfl
  have a41 : AtM K C_Ref "__eq__" "Ref.__eq__" s_Ref___eq__ ["self", "other"] := AtM.of f41 fun _ _ _ _ _ _ us hl => match us, hl with | [_, _], _ => rfl
  have a42 : AtM K C_Builtin "__eq__" "Builtin.__eq__" s_Builtin___eq__ ["self", "other"] := AtM.of f42 fun _ _ _ _ _ _ us hl => match us, hl with | [_, _], _ => rfl
  have a43 : At K mg "_law_same" "_law_same" s_law_same ["x", "y"] := At.of X G f43 fun _ _ _ _ _ _ us hl => match us, hl with | [_, _], _ => rfl
  have a44 : At K mg "_law_key" "_law_key" s_law_key ["state"] := At.of X G f44 fun _ _ _ _ _ _ us hl => match us, hl with | [_], _ => rfl
  have a45 : At K mg "_law_at" "_law_at" s_law_at ["rows", "key"] := At.of X G f45 fun _ _ _ _ _ _ us hl => match us, hl with | [_, _], _ => rfl
  have a46 : At K mg "_law_put" "_law_put" s_law_put ["rows", "key", "value"] := At.of X G f46 fun _ _ _ _ _ _ us hl => match us, hl with | [_, _, _], _ => rfl
  have a47 : At K mg "_law_pairs" "_law_pairs" s_law_pairs ["told", "rows"] := At.of X G f47 fun _ _ _ _ _ _ us hl => match us, hl with | [_, _], _ => rfl
  have a48 : At K mg "_law_is" "_law_is" s_law_is ["told", "value"] := At.of X G f48 fun _ _ _ _ _ _ us hl => match us, hl with | [_, _], _ => rfl
  have a49 : At K mg "_law_try" "_law_try" s_law_try ["store", "deed", "name", "values"] := At.of X G f49 fun _ _ _ _ _ _ us hl => match us, hl with | [_, _, _, _], _ => rfl
  have a50 : At K mg "_law_taken" "_law_taken" s_law_taken ["store", "rows", "key"] := At.of X G f50 fun _ _ _ _ _ _ us hl => match us, hl with | [_, _, _], _ => rfl
  have a51 : At K mg "_law_set" "_law_set" s_law_set ["store", "rows", "key", "value"] := At.of X G f51 fun _ _ _ _ _ _ us hl => match us, hl with | [_, _, _, _], _ => rfl
  have a52 : At K mg "_law_read" "_law_read" s_law_read ["store", "rows", "key", "value"] := At.of X G f52 fun _ _ _ _ _ _ us hl => match us, hl with | [_, _, _, _], _ => rfl
  have a53 : At K mg "_law_listed" "_law_listed" s_law_listed ["store", "rows"] := At.of X G f53 fun _ _ _ _ _ _ us hl => match us, hl with | [_, _], _ => rfl
  have a54 : At K mg "_law_merged" "_law_merged" s_law_merged ["store", "rows", "state"] := At.of X G f54 fun _ _ _ _ _ _ us hl => match us, hl with | [_, _, _], _ => rfl
  have a55 : At K mg "_law_step" "_law_step" s_law_step ["store", "rows", "state"] := At.of X G f55 fun _ _ _ _ _ _ us hl => match us, hl with | [_, _, _], _ => rfl
  obtain ⟨f, oc, od, an, sl, kV, dc, pm, cd, ct, a, l, cc, k⟩ := f56.ex
  have e := hfa.symm.trans (PySem.W.mg_of X G a)
  cases e
  have F1 := fun_mk (st := s_law) l cc k
  have al : At K mg "law" "law" s_law ["script"] := ⟨_, _, F1, F1.binds fun _ _ _ _ _ _ us hl => match us, hl with | [_], _ => rfl, PySem.W.mg_of X G a⟩
  refine ⟨PySem.W.fnOf "law" "law" (defArgs s_law) (defBody s_law) (defScope s_law) .none kV dc pm an cd ct, fun s v => .of_eq rfl, fun base _ _ => ?_⟩
  exact law_fn F1 T TD a0 a1 a2 a3 a4 a5 a6 a7 a8 a9 a10 a11 a12 a13 a14 a15 a16 a17 a18 a19 a20 a21 a22 a23 a24 a25 a26 a27 a28 a29 a30 a31 a32 a33 a34 a35 a36 a37 a38 a39 a40 a41 a42 a43 a44 a45 a46 a47 a48 a49 a50 a51 a52 a53 a54 a55
end My
namespace My
open PySem PySem.Spec PyProof.Rows L2 Fx
set_option maxHeartbeats 0
theorem facts {P : Program} {w : World} {K : PySem.W.Frag} {h : Heap} {mg : Str → Option Value} {f : Addr} (KX : K.In h) (G : h.Ns mainGlobals mg) (hfa : mg ("law" : Str) = some (.ref f)) (c : Hd.Says fas fns dcs w K) :
    ∃ fd : FuncData, (∀ (s : Shared) (v : Value), BindsTo s fd ⟨[v], []⟩ [("script", v)]) ∧ ∀ base : Heap, K.In base → base.Ns mainGlobals mg → FnOk P w K mg base CX0 11 f fd ["script"] (spLaw K) :=
  all_mk KX G hfa
    (Hd.glo_ (c.fact 0 rfl))
    (Hd.glo_ (c.fact 1 rfl))
    (Hd.glo_ (c.fact 2 rfl))
    (Hd.glo_ (c.fact 3 rfl))
    (Hd.glo_ (c.fact 4 rfl))
    (Hd.glo_ (c.fact 5 rfl))
    (Hd.glo_ (c.fact 6 rfl))
    (Hd.glo_ (c.fact 7 rfl))
    (Hd.glo_ (c.fact 8 rfl))
    (Hd.glo_ (c.fact 9 rfl))
    (Hd.cls_ (c.fact 10 rfl))
    (Hd.cls_ (c.fact 11 rfl))
    (Hd.cls_ (c.fact 12 rfl))
    (Hd.cls_ (c.fact 13 rfl))
    (Hd.cls_ (c.fact 14 rfl))
    (Hd.cls_ (c.fact 15 rfl))
    (Hd.cls_ (c.fact 16 rfl))
    (Hd.cls_ (c.fact 17 rfl))
    (Hd.exc_ (c.fact 18 rfl))
    (Hd.exc_ (c.fact 19 rfl))
    (Hd.noat_ (c.fact 20 rfl))
    (Hd.noat_ (c.fact 21 rfl))
    (Hd.sub_ (c.fact 22 rfl))
    (Hd.obj_ (c.fact 23 rfl))
    (Hd.noat_ (c.fact 24 rfl))
    (Hd.noat_ (c.fact 25 rfl))
    (Hd.noat_ (c.fact 26 rfl))
    (Hd.noat_ (c.fact 27 rfl))
    (Hd.noat_ (c.fact 28 rfl))
    (Hd.noat_ (c.fact 29 rfl))
    (Hd.noat_ (c.fact 30 rfl))
    (Hd.noat_ (c.fact 31 rfl))
    (Hd.noat_ (c.fact 32 rfl))
    (Hd.noat_ (c.fact 33 rfl))
    (Hd.noat_ (c.fact 34 rfl))
    (Hd.noat_ (c.fact 35 rfl))
    (Hd.noat_ (c.fact 36 rfl))
    (Hd.kio_ (c.fact 37 rfl))
    (Hd.kio_ (c.fact 38 rfl))
    (Hd.kio_ (c.fact 39 rfl))
    (Hd.kio_ (c.fact 40 rfl))
    (Hd.kio_ (c.fact 41 rfl))
    (Hd.kio_ (c.fact 42 rfl))
    (Hd.kio_ (c.fact 43 rfl))
    (Hd.kio_ (c.fact 44 rfl))
    (Hd.kio_ (c.fact 45 rfl))
    (Hd.kio_ (c.fact 46 rfl))
    (Hd.kio_ (c.fact 47 rfl))
    (Hd.kio_ (c.fact 48 rfl))
    (Hd.kio_ (c.fact 49 rfl))
    (Hd.kio_ (c.fact 50 rfl))
    (Hd.kio_ (c.fact 51 rfl))
    (Hd.kio_ (c.fact 52 rfl))
    (Hd.kio_ (c.fact 53 rfl))
    (Hd.kio_ (c.fact 54 rfl))
    (Hd.kio_ (c.fact 55 rfl))
    (Hd.kio_ (c.fact 56 rfl))
    (Hd.kio_ (c.fact 57 rfl))
    (Hd.kio_ (c.fact 58 rfl))
    (Hd.kio_ (c.fact 59 rfl))
    (Hd.kio_ (c.fact 60 rfl))
    (Hd.kio_ (c.fact 61 rfl))
    (Hd.kio_ (c.fact 62 rfl))
    (Hd.kio_ (c.fact 63 rfl))
    (Hd.kio_ (c.fact 64 rfl))
    (Hd.kio_ (c.fact 65 rfl))
    (Hd.kio_ (c.fact 66 rfl))
    (Hd.kio_ (c.fact 67 rfl))
    (Hd.kio_ (c.fact 68 rfl))
    (Hd.kio_ (c.fact 69 rfl))
    (Hd.kio_ (c.fact 70 rfl))
    (Hd.kio_ (c.fact 71 rfl))
    (Hd.kio_ (c.fact 72 rfl))
    (Hd.kio_ (c.fact 73 rfl))
    (Hd.kio_ (c.fact 74 rfl))
    (Hd.kio_ (c.fact 75 rfl))
    (Hd.kio_ (c.fact 76 rfl))
    (Hd.kio_ (c.fact 77 rfl))
    (Hd.kio_ (c.fact 78 rfl))
    (Hd.kio_ (c.fact 79 rfl))
    (Hd.kio_ (c.fact 80 rfl))
    (Hd.kio_ (c.fact 81 rfl))
    (Hd.kio_ (c.fact 82 rfl))
    (Hd.kio_ (c.fact 83 rfl))
    (Hd.kio_ (c.fact 84 rfl))
    (Hd.kib_ (c.fact 85 rfl))
    (Hd.kib_ (c.fact 86 rfl))
    (Hd.kib_ (c.fact 87 rfl))
    (Hd.kib_ (c.fact 88 rfl))
    (Hd.kib_ (c.fact 89 rfl))
    (Hd.kib_ (c.fact 90 rfl))
    (Hd.kib_ (c.fact 91 rfl))
    (Hd.kib_ (c.fact 92 rfl))
    (Hd.kib_ (c.fact 93 rfl))
    (Hd.kib_ (c.fact 94 rfl))
    (Hd.kib_ (c.fact 95 rfl))
    (Hd.kib_ (c.fact 96 rfl))
    (Hd.kib_ (c.fact 97 rfl))
    (Hd.kib_ (c.fact 98 rfl))
    (Hd.kib_ (c.fact 99 rfl))
    (Hd.kib_ (c.fact 100 rfl))
    (Hd.kib_ (c.fact 101 rfl))
    (Hd.kib_ (c.fact 102 rfl))
    (Hd.kib_ (c.fact 103 rfl))
    (Hd.kib_ (c.fact 104 rfl))
    (Hd.kib_ (c.fact 105 rfl))
    (Hd.kib_ (c.fact 106 rfl))
    (Hd.kib_ (c.fact 107 rfl))
    (Hd.kib_ (c.fact 108 rfl))
    (Hd.kib_ (c.fact 109 rfl))
    (Hd.kib_ (c.fact 110 rfl))
    (Hd.kib_ (c.fact 111 rfl))
    (Hd.kib_ (c.fact 112 rfl))
    (Hd.kib_ (c.fact 113 rfl))
    (Hd.kib_ (c.fact 114 rfl))
    (Hd.kib_ (c.fact 115 rfl))
    (Hd.kib_ (c.fact 116 rfl))
    (Hd.kib_ (c.fact 117 rfl))
    (Hd.kib_ (c.fact 118 rfl))
    (Hd.kib_ (c.fact 119 rfl))
    (Hd.kib_ (c.fact 120 rfl))
    (Hd.kib_ (c.fact 121 rfl))
    (Hd.kib_ (c.fact 122 rfl))
    (Hd.kib_ (c.fact 123 rfl))
    (Hd.kib_ (c.fact 124 rfl))
    (Hd.kib_ (c.fact 125 rfl))
    (Hd.kib_ (c.fact 126 rfl))
    (Hd.kob_ (c.fact 127 rfl))
    (Hd.kob_ (c.fact 128 rfl))
    (Hd.kob_ (c.fact 129 rfl))
    (Hd.kob_ (c.fact 130 rfl))
    (Hd.kob_ (c.fact 131 rfl))
    (Hd.kob_ (c.fact 132 rfl))
    (Hd.kob_ (c.fact 133 rfl))
    (Hd.kob_ (c.fact 134 rfl))
    (Hd.kob_ (c.fact 135 rfl))
    (Hd.kob_ (c.fact 136 rfl))
    (Hd.kob_ (c.fact 137 rfl))
    (Hd.kob_ (c.fact 138 rfl))
    (Hd.kob_ (c.fact 139 rfl))
    (Hd.kob_ (c.fact 140 rfl))
    (Hd.kob_ (c.fact 141 rfl))
    (Hd.kob_ (c.fact 142 rfl))
    (Hd.kob_ (c.fact 143 rfl))
    (Hd.kob_ (c.fact 144 rfl))
    (Hd.kob_ (c.fact 145 rfl))
    (Hd.kob_ (c.fact 146 rfl))
    (Hd.kob_ (c.fact 147 rfl))
    (Hd.kob_ (c.fact 148 rfl))
    (Hd.kob_ (c.fact 149 rfl))
    (Hd.kob_ (c.fact 150 rfl))
    (Hd.kob_ (c.fact 151 rfl))
    (Hd.kob_ (c.fact 152 rfl))
    (Hd.kob_ (c.fact 153 rfl))
    (Hd.kob_ (c.fact 154 rfl))
    (Hd.kob_ (c.fact 155 rfl))
    (Hd.kob_ (c.fact 156 rfl))
    (Hd.kob_ (c.fact 157 rfl))
    (Hd.kob_ (c.fact 158 rfl))
    (Hd.kob_ (c.fact 159 rfl))
    (Hd.kob_ (c.fact 160 rfl))
    (Hd.kob_ (c.fact 161 rfl))
    (Hd.kob_ (c.fact 162 rfl))
    (Hd.kob_ (c.fact 163 rfl))
    (Hd.kob_ (c.fact 164 rfl))
    (Hd.kob_ (c.fact 165 rfl))
    (Hd.kob_ (c.fact 166 rfl))
    (Hd.kob_ (c.fact 167 rfl))
    (Hd.kob_ (c.fact 168 rfl))
    (Hd.kob_ (c.fact 169 rfl))
    (Hd.kob_ (c.fact 170 rfl))
    (Hd.kob_ (c.fact 171 rfl))
    (Hd.kob_ (c.fact 172 rfl))
    (Hd.kob_ (c.fact 173 rfl))
    (Hd.kob_ (c.fact 174 rfl))
    (Hd.ne_ (c.fact 175 rfl))
    (Hd.ne_ (c.fact 176 rfl))
    (Hd.ne_ (c.fact 177 rfl))
    (Hd.ne_ (c.fact 178 rfl))
    (Hd.ne_ (c.fact 179 rfl))
    (Hd.ne_ (c.fact 180 rfl))
    (Hd.ne_ (c.fact 181 rfl))
    (Hd.ne_ (c.fact 182 rfl))
    (Hd.ne_ (c.fact 183 rfl))
    (Hd.ne_ (c.fact 184 rfl))
    (Hd.ne_ (c.fact 185 rfl))
    (Hd.ne_ (c.fact 186 rfl))
    (Hd.ne_ (c.fact 187 rfl))
    (Hd.ne_ (c.fact 188 rfl))
    (Hd.ne_ (c.fact 189 rfl))
    (Hd.ne_ (c.fact 190 rfl))
    (Hd.ne_ (c.fact 191 rfl))
    (Hd.ne_ (c.fact 192 rfl))
    (Hd.ne_ (c.fact 193 rfl))
    (Hd.ne_ (c.fact 194 rfl))
    (Hd.ne_ (c.fact 195 rfl))
    (Hd.ne_ (c.fact 196 rfl))
    (Hd.ne_ (c.fact 197 rfl))
    (Hd.ne_ (c.fact 198 rfl))
    (Hd.ne_ (c.fact 199 rfl))
    (Hd.ne_ (c.fact 200 rfl))
    (Hd.ne_ (c.fact 201 rfl))
    (Hd.ne_ (c.fact 202 rfl))
    (Hd.dicT_ c 0 203 204 rfl rfl rfl)
    (Hd.dicT_ c 1 205 206 rfl rfl rfl)
    (Hd.dicT_ c 2 207 208 rfl rfl rfl)
    (Hd.fn_ c 0 209 210 rfl rfl rfl)
    (Hd.fn_ c 1 211 212 rfl rfl rfl)
    (Hd.fn_ c 2 213 214 rfl rfl rfl)
    (Hd.meth_ c 3 215 rfl rfl)
    (Hd.meth_ c 4 216 rfl rfl)
    (Hd.meth_ c 5 217 rfl rfl)
    (Hd.meth_ c 6 218 rfl rfl)
    (Hd.meth_ c 7 219 rfl rfl)
    (Hd.init_ c 8 220 rfl rfl)
    (Hd.meth_ c 9 221 rfl rfl)
    (Hd.fn_ c 10 222 223 rfl rfl rfl)
    (Hd.meth_ c 11 224 rfl rfl)
    (Hd.meth_ c 12 225 rfl rfl)
    (Hd.meth_ c 13 226 rfl rfl)
    (Hd.meth_ c 14 227 rfl rfl)
    (Hd.prop_ c 15 228 rfl rfl)
    (Hd.meth_ c 16 229 rfl rfl)
    (Hd.meth_ c 17 230 rfl rfl)
    (Hd.meth_ c 18 231 rfl rfl)
    (Hd.meth_ c 19 232 rfl rfl)
    (Hd.fn_ c 20 233 234 rfl rfl rfl)
    (Hd.fn_ c 21 235 236 rfl rfl rfl)
    (Hd.fn_ c 22 237 238 rfl rfl rfl)
    (Hd.fn_ c 23 239 240 rfl rfl rfl)
    (Hd.fn_ c 24 241 242 rfl rfl rfl)
    (Hd.fn_ c 25 243 244 rfl rfl rfl)
    (Hd.fn_ c 26 245 246 rfl rfl rfl)
    (Hd.fn_ c 27 247 248 rfl rfl rfl)
    (Hd.fn_ c 28 249 250 rfl rfl rfl)
    (Hd.fn_ c 29 251 252 rfl rfl rfl)
    (Hd.fn_ c 30 253 254 rfl rfl rfl)
    (Hd.fn_ c 31 255 256 rfl rfl rfl)
    (Hd.fn_ c 32 257 258 rfl rfl rfl)
    (Hd.fn_ c 33 259 260 rfl rfl rfl)
    (Hd.fn_ c 34 261 262 rfl rfl rfl)
    (Hd.fn_ c 35 263 264 rfl rfl rfl)
    (Hd.fn_ c 36 265 266 rfl rfl rfl)
    (Hd.fn_ c 37 267 268 rfl rfl rfl)
    (Hd.fn_ c 38 269 270 rfl rfl rfl)
    (Hd.fn_ c 39 271 272 rfl rfl rfl)
    (Hd.fn_ c 40 273 274 rfl rfl rfl)
    (Hd.meth_ c 41 275 rfl rfl)
    (Hd.meth_ c 42 276 rfl rfl)
    (Hd.fn_ c 43 277 278 rfl rfl rfl)
    (Hd.fn_ c 44 279 280 rfl rfl rfl)
    (Hd.fn_ c 45 281 282 rfl rfl rfl)
    (Hd.fn_ c 46 283 284 rfl rfl rfl)
    (Hd.fn_ c 47 285 286 rfl rfl rfl)
    (Hd.fn_ c 48 287 288 rfl rfl rfl)
    (Hd.fn_ c 49 289 290 rfl rfl rfl)
    (Hd.fn_ c 50 291 292 rfl rfl rfl)
    (Hd.fn_ c 51 293 294 rfl rfl rfl)
    (Hd.fn_ c 52 295 296 rfl rfl rfl)
    (Hd.fn_ c 53 297 298 rfl rfl rfl)
    (Hd.fn_ c 54 299 300 rfl rfl rfl)
    (Hd.fn_ c 55 301 302 rfl rfl rfl)
    (Hd.fn_ c 56 303 304 rfl rfl rfl)
    (Hd.free_ (c.fact 305 rfl))
    (Hd.free_ (c.fact 306 rfl))
    (Hd.free_ (c.fact 307 rfl))
    (Hd.free_ (c.fact 308 rfl))
    (Hd.free_ (c.fact 309 rfl))
    (Hd.free_ (c.fact 310 rfl))
    (Hd.free_ (c.fact 311 rfl))
    (Hd.free_ (c.fact 312 rfl))
    (Hd.free_ (c.fact 313 rfl))
    (Hd.free_ (c.fact 314 rfl))
    (Hd.free_ (c.fact 315 rfl))
    (Hd.free_ (c.fact 316 rfl))
    (Hd.free_ (c.fact 317 rfl))
    (Hd.free_ (c.fact 318 rfl))
    (Hd.str_ (c.fact 319 rfl))
    (Hd.int_ (c.fact 320 rfl))
end My
open PySem PySem.W PySem.Calls PyProof.Rows
set_option maxRecDepth 100000 in
set_option maxHeartbeats 0 in
theorem PySem.Challenge.cw_livequill_k21_maps_by_methods_holds : PySem.Challenge.rw_livequill_k21_maps_by_methods.Holds := by
  w_on; o_law
  refine HandSHeadRun.head_any (r := OpenLaw.row PySem.Challenge.rw_livequill_k21_maps_by_methods) (q := view (OpenLaw.row PySem.Challenge.rw_livequill_k21_maps_by_methods).prog [99]) (H := My.hk) (ob := My.ob) (M := 300000) (loose := My.nms) (d := HandSHeadRun.topDef (OpenLaw.row PySem.Challenge.rw_livequill_k21_maps_by_methods).prog 99) (kwd := []) My.ob_eq
    (by kernel_rfl) (fun s => by kernel_rfl) My.run (by kernel_rfl) (by kernel_rfl) (by kernel_rfl) (by rfl) (by first | assumption | decide +kernel) (by decide +kernel) ⟨rfl, rfl, rfl, rfl, rfl, by decide +kernel⟩ ?hw ?hc
  case hw => w_witness2
  case hc =>
    refine L2.walk_ofE (l := PySem.Challenge.rw_livequill_k21_maps_by_methods) (n := 63) (k := 11) (x := "script") (CX := L2.CX0) rfl (by decide) (by kernel_rfl) ⟨rfl, by decide, by decide⟩ ?F (fun _ _ _ _ z => z)
    intro w mg fa h Y G hmg0
    obtain ⟨K, KX, c⟩ := Y
    have hmg : mg ("law" : PySem.Str) = some (.ref fa) := by
      have e : (HandSHeadRun.topDef (OpenLaw.row PySem.Challenge.rw_livequill_k21_maps_by_methods).prog 99).name = ("law" : PySem.Str) := by kernel_rfl
      rw [← e]
      exact hmg0
    obtain ⟨fd, hb, hF⟩ := My.facts (P := (PySem.Challenge.rw_livequill_k21_maps_by_methods).prog) (w := w) KX G hmg c
    exact ⟨K, fd, My.spLaw K, KX, hb, fun H a ns hl hO hS => ⟨a, ns, rfl, hS, hl, fun _ => rfl⟩, hF⟩
