import PyProof.Rows.All
import Wide.All
import OpenK.AllK
import Wide.FinOn
import HandS.ForMost
import HandS.StrMore
import HandS.Wide
import HandS.IsInst
import HandS.Flow
import HandS.Codes
import HandS.Deep
import HandS.EndBits
import HandS.Walk
import KE.DataEq
import PySem.Challenge.RW_livequill_k02_faults_of_tokens
set_option Elab.async false
set_option linter.all false
set_option maxRecDepth 100000
/-! Fx: readings that compute: every operation is one function of its values, whatever their kinds. -/
namespace Fx
open PySem PySem.Spec PyProof.Rows L2

/-! ### weakening -/
section
variable {X : Cx}
theorem pe_wk {e : Expr} {t t' : TE} (h : PE X e t) (w : ∀ σ H Q, t' σ H Q → t σ H Q) : PE X e t' := ⟨fun pins s σ H Q I q => h.run pins s σ H Q I (w σ H Q q)⟩
theorem pt_wk {e : Expr} {t t' : TT} (h : PT X e t) (w : ∀ σ H Q, t' σ H Q → t σ H Q) : PT X e t' := ⟨fun pins s σ H Q I q => h.run pins s σ H Q I (w σ H Q q)⟩
theorem ps_wk {e : Stmt} {t t' : TS} (h : PS X e t) (w : ∀ D σ H, t' D σ H → t D σ H) : PS X e t' := ⟨fun pins s σ H D I q => h.run pins s σ H D I (w D σ H q)⟩
theorem op_wk {f : Value → Value → Sem Value} {r r' : R2} (h : OpR X f r) (w : ∀ x y H Q, r' x y H Q → r x y H Q) : OpR X f r' := fun pins s σ H x y v u Q I rx ry q => h pins s σ H x y v u Q I rx ry (w x y H Q q)
theorem call_wk {f : Value} {r r' : List V → Hp → VK → Prop} (h : CallR X f r) (w : ∀ xs H Q, r' xs H Q → r xs H Q) : CallR X f r' := fun pins s σ H xs us Q I rx q => h pins s σ H xs us Q I rx (w xs H Q q)

/-! ### names -/
def fVar (i : Nat) : TE := fun σ H Q => match σ[i]? with
  | some (some v) => Q v H
  | _ => False
theorem fe_var (i : Nat) {x : Str} {pos : Pos} (hN : X.N[i]? = some x := by rfl) (hv : Vis X.env.scope x := by first | exact Or.inl rfl | exact Or.inr (Or.inl rfl) | exact Or.inr (Or.inr rfl)) (hd : (x == ("__debug__" : Str)) = false := by decide)
    (hcd : (x == ("__classdict__" : Str)) = false := by decide) : PE X (.Name x pos) (fVar i) := pe_wk (pe_var hN hv hd hcd) fun σ H Q q => by
  unfold fVar at q
  split at q
  · exact ⟨_, by assumption, q⟩
  · exact q.elim

theorem same_new {H : Hp} {p : Addr} {o : HO} (h : H p = none) : Same H (upd H p o) := fun b x e => by
  rw [upd_ne (ne_of_none e h)]
  exact e
/-- a new tuple, a new list: behind it a heap that has it and keeps the rest -/
def fTup (t : TA) : TE := fun σ H Q => t σ H fun xs H1 => xs.length ≤ 100000 ∧ ∀ p H2, H1 p = none → Same H1 H2 → H2 p = some (.tup xs) → Q (.ref p) H2
def fLst (t : TA) : TE := fun σ H Q => t σ H fun xs H1 => xs.length ≤ 100000 ∧ ∀ p H2, H1 p = none → Same H1 H2 → H2 p = some (.lst xs) → Q (.ref p) H2
theorem line5 {n : Nat} (h : n ≤ 100000) : n ≤ sizeLine := Nat.le_trans h (by decide)
section
variable {es : List Expr} {t : TA} {pos : Pos}
theorem fe_tup {x1} (h : PA X es t) : PE X (.Tuple es x1 pos) (fTup t) := by
  refine ⟨fun pins s σ H Q I hq => ?_⟩
  refine wpAny_Tuple_spliced (thn (h.run pos pins s σ H _ I hq) fun us s1 ⟨xs, H1, I1, r, z, q⟩ => ⟨by rw [← r.length]; exact line5 z, ?_⟩)
  have hf : H1 s1.heap.objs.size = none := I1.hok.fresh (Nat.le_refl _)
  refine ⟨.ref s1.heap.objs.size, upd H1 s1.heap.objs.size (.tup xs), I1.laid (t' := s1.toks) (fun b u e => Heap.get?_push_of_some _ e) (Nat.le_refl _) ?_, rfl, q _ _ hf (same_new hf) upd_same⟩
  exact ⟨line5 z, us, r, ⟨_, Heap.get?_push_size _ rfl, rfl, _, rfl⟩⟩
theorem fe_lst (h : PA X es t) : PE X (.List es pos) (fLst t) := by
  refine ⟨fun pins s σ H Q I hq => ?_⟩
  refine wpAny_List_spliced (thn (h.run pos pins s σ H _ I hq) fun us s1 ⟨xs, H1, I1, r, z, q⟩ => ⟨by rw [← r.length]; exact line5 z, ?_⟩)
  have hf : H1 s1.heap.objs.size = none := I1.hok.fresh (Nat.le_refl _)
  refine ⟨.ref s1.heap.objs.size, upd H1 s1.heap.objs.size (.lst xs), I1.laid (t' := s1.toks) (fun b u e => Heap.get?_push_of_some _ e) (Nat.le_refl _) ?_, rfl, q _ _ hf (same_new hf) upd_same⟩
  exact ⟨line5 z, us, 0, r, Heap.get?_push_size _ rfl⟩
end
/-! ### a list or a tuple that is read -/
def Rl (K : PySem.W.Frag) (H : Hp) (a : Addr) (xs : List V) : Prop := SqL K H a xs ∨ SqT K H a xs
theorem rl_l {K : PySem.W.Frag} {H : Hp} {a : Addr} {xs : List V} (h : H a = some (.lst xs)) : Rl K H a xs := .inl (SqL.of h)
theorem rl_t {K : PySem.W.Frag} {H : Hp} {a : Addr} {xs : List V} (h : H a = some (.tup xs)) : Rl K H a xs := .inr (SqT.of h)

/-! ### operators by values -/
def fAdd (K : PySem.W.Frag) : R2 := fun x y H Q => match x, y with
  | .int i, .int j => Q (.int (i + j)) H
  | .str a, .str b => a.length + b.length ≤ sizeLine ∧ Q (.str (a ++ b)) H
  | .ref l, .ref b => match H l, H b with
    | some (.lst xs), some (.lst zs) => xs.length + zs.length ≤ sizeLine ∧ ∀ p H1, H p = none → Same H H1 → H1 p = some (.lst (xs ++ zs)) → Q (.ref p) H1
    | _, _ => False
  | _, _ => False
theorem op_fAdd : OpR X (binaryOp .Add) (fAdd X.K) := by
  intro pins s σ H x y v u Q I rx ry h
  cases x <;> cases y <;> first
    | exact False.elim h
    | exact op_add pins s σ H _ _ v u Q I rx ry ⟨_, _, rfl, rfl, h⟩
    | exact op_add_str pins s σ H _ _ v u Q I rx ry ⟨_, _, rfl, rfl, h⟩
    | (dsimp only [fAdd] at h
       split at h
       · exact op_cat pins s σ H _ _ v u Q I rx ry ⟨_, _, _, _, rfl, rfl, by assumption, by assumption, h.1, fun p np => h.2 p _ np (same_new np) upd_same⟩
       · exact h.elim)
def fSub : R2 := fun x y H Q => match x, y with
  | .int i, .int j => Q (.int (i - j)) H
  | _, _ => False
theorem op_fSub : OpR X (binaryOp .Sub) fSub := by
  intro pins s σ H x y v u Q I rx ry h
  cases x <;> cases y <;> first
    | exact False.elim h
    | exact op_sub pins s σ H _ _ v u Q I rx ry ⟨_, _, rfl, rfl, h⟩
def fMul : R2 := fun x y H Q => match x, y with
  | .int i, .int j => IntMulOk i j ∧ Q (.int (i * j)) H
  | .str a, .int j => MulOk a j ∧ Q (.str (Txt.mul a j)) H
  | .ref l, .int k => rRep (.ref l) (.int k) H Q
  | _, _ => False
theorem op_fMul : OpR X (binaryOp .Mult) fMul := by
  intro pins s σ H x y v u Q I rx ry h
  match x, y, rx, ry, h with
  | .int i, .int j, ⟨t, e⟩, ⟨t', e'⟩, ⟨hm, q⟩ =>
    subst e e'
    exact mul_int ⟨.int _, H, I.tok _, ⟨_, rfl⟩, q⟩ hm
  | .str a, .int j, ⟨t, e⟩, ⟨t', e'⟩, ⟨hm, q⟩ =>
    subst e e'
    exact SB.mul hm fun t' k => ⟨.str _, H, I.tok _, ⟨_, rfl⟩, q⟩
  | .ref l, .int k, rx, ry, h => exact op_rep pins s σ H _ _ v u Q I rx ry h
def fDiv : R2 := fun x y H Q => match x, y with
  | .int i, .int j => CDivW i j ∧ Q (.int (i / j)) H
  | _, _ => False
theorem op_fDiv : OpR X (binaryOp .FloorDiv) fDiv := by
  intro pins s σ H x y v u Q I rx ry h
  cases x <;> cases y <;> first
    | exact False.elim h
    | exact op_fdivW pins s σ H _ _ v u Q I rx ry ⟨_, _, rfl, rfl, h⟩
def fMod : R2 := fun x y H Q => match x, y with
  | .int i, .int j => 0 < j ∧ Q (.int (i % j)) H
  | _, _ => False
theorem op_fMod : OpR X (binaryOp .Mod) fMod := by
  intro pins s σ H x y v u Q I rx ry h
  cases x <;> cases y <;> first
    | exact False.elim h
    | exact op_mod pins s σ H _ _ v u Q I rx ry ⟨_, _, rfl, rfl, h⟩
def fNeg : V → Hp → VK → Prop := fun x H Q => match x with
  | .int i => Q (.int (-i)) H
  | _ => False
theorem un_fNeg : UnR X (unaryOp .USub) fNeg := by
  intro pins s σ H x v Q I rx h
  cases x <;> first
    | exact False.elim h
    | exact un_neg pins s σ H _ v Q I rx ⟨_, rfl, h⟩
/-- data that == may look at -/
def okd (d : PyData) : Bool := d.plain && decide (d.depth ≤ 64)
/-- == of scalars as such, of lists and tuples as data -/
def fEq (K : PySem.W.Frag) (neg : Bool) : R2 := fun x y H Q =>
  if scal x y = true then Q (.bl (if neg = true then !decide (x = y) else decide (x = y))) H
  else ∃ d e, Dp K H x d ∧ Dp K H y e ∧ okd d = true ∧ okd e = true ∧ Q (.bl (if neg = true then !PyData.eqv d e else PyData.eqv d e)) H
theorem op_fEq (hu : X.A.units + 64 < cLine) : OpR X (compareOp .Eq) (fEq X.K false) := by
  intro pins s σ H x y v u Q I rx ry h
  unfold fEq at h
  split at h
  · exact op_eq pins s σ H x y v u Q I rx ry ⟨by assumption, h⟩
  · obtain ⟨d, e, hd, he, sd, se, q⟩ := h
    obtain ⟨as, r1⟩ := Dp.reads I d x v hd rx
    obtain ⟨bs, r2⟩ := Dp.reads I e y u he ry
    have sd := Bool.and_eq_true_iff.mp sd
    have se := Bool.and_eq_true_iff.mp se
    have d1 := of_decide_eq_true sd.2
    exact SeqAt.eq_plain r1 r2 sd.1 se.1 (by omega) ⟨.bl _, H, I, rfl, q⟩
theorem op_fNe (hu : X.A.units + 64 < cLine) : OpR X (compareOp .NotEq) (fEq X.K true) := by
  intro pins s σ H x y v u Q I rx ry h
  unfold fEq at h
  split at h
  · exact op_ne pins s σ H x y v u Q I rx ry ⟨by assumption, h⟩
  · obtain ⟨d, e, hd, he, sd, se, q⟩ := h
    obtain ⟨as, r1⟩ := Dp.reads I d x v hd rx
    obtain ⟨bs, r2⟩ := Dp.reads I e y u he ry
    have sd := Bool.and_eq_true_iff.mp sd
    have se := Bool.and_eq_true_iff.mp se
    have d1 := of_decide_eq_true sd.2
    exact SeqAt.ne_plain r1 r2 sd.1 se.1 (by omega) ⟨.bl _, H, I, rfl, q⟩
def fLt : R2 := fun x y H Q => match x, y with
  | .int i, .int j => Q (.bl (decide (i < j))) H
  | .str i, .str j => Q (.bl (decide (i.cps.toList < j.cps.toList))) H
  | _, _ => False
theorem op_fLt : OpR X (compareOp .Lt) fLt := by
  intro pins s σ H x y v u Q I rx ry h
  cases x <;> cases y <;> first
    | exact False.elim h
    | exact op_lt pins s σ H _ _ v u Q I rx ry ⟨_, _, rfl, rfl, h⟩
    | exact op_lt_str pins s σ H _ _ v u Q I rx ry ⟨_, _, rfl, rfl, h⟩
def fLe : R2 := fun x y H Q => match x, y with
  | .int i, .int j => Q (.bl (decide (i ≤ j))) H
  | .str i, .str j => Q (.bl (!decide (j.cps.toList < i.cps.toList))) H
  | _, _ => False
theorem op_fLe : OpR X (compareOp .LtE) fLe := by
  intro pins s σ H x y v u Q I rx ry h
  cases x <;> cases y <;> first
    | exact False.elim h
    | exact op_le pins s σ H _ _ v u Q I rx ry ⟨_, _, rfl, rfl, h⟩
    | exact op_le_str pins s σ H _ _ v u Q I rx ry ⟨_, _, rfl, rfl, h⟩
def fGt : R2 := fun x y H Q => match x, y with
  | .int i, .int j => Q (.bl (decide (j < i))) H
  | .str i, .str j => Q (.bl (decide (j.cps.toList < i.cps.toList))) H
  | _, _ => False
theorem op_fGt : OpR X (compareOp .Gt) fGt := by
  intro pins s σ H x y v u Q I rx ry h
  cases x <;> cases y <;> first
    | exact False.elim h
    | exact op_gt pins s σ H _ _ v u Q I rx ry ⟨_, _, rfl, rfl, h⟩
    | exact op_gt_str pins s σ H _ _ v u Q I rx ry ⟨_, _, rfl, rfl, h⟩
def fGe : R2 := fun x y H Q => match x, y with
  | .int i, .int j => Q (.bl (decide (j ≤ i))) H
  | .str i, .str j => Q (.bl (!decide (i.cps.toList < j.cps.toList))) H
  | _, _ => False
theorem op_fGe : OpR X (compareOp .GtE) fGe := by
  intro pins s σ H x y v u Q I rx ry h
  cases x <;> cases y <;> first
    | exact False.elim h
    | exact op_ge pins s σ H _ _ v u Q I rx ry ⟨_, _, rfl, rfl, h⟩
    | exact op_ge_str pins s σ H _ _ v u Q I rx ry ⟨_, _, rfl, rfl, h⟩
/-- x in y: one sign in a text; a text in a text; a flat value in a list or tuple of flat values -/
def fIn (K : PySem.W.Frag) (neg : Bool) : R2 := fun x y H Q => match x, y with
  | .str a, .str b => match a.cps.toList with
    | [c] => Q (.bl (if neg = true then !decide (c ∈ b.cps.toList) else decide (c ∈ b.cps.toList))) H
    | _ => Q (.bl (if neg = true then !(!(Builtin.Str.occurrences b a 0 b.length 1).isEmpty) else !(Builtin.Str.occurrences b a 0 b.length 1).isEmpty)) H
  | x, .ref p => ∃ xs, Rl K H p xs ∧ flatV x = true ∧ xs.all flatV = true ∧ Q (.bl (if neg = true then !inV x xs else inV x xs)) H
  | _, _ => False
theorem str_one {a : Str} {c : Nat} (h : a.cps.toList = [c]) : a = ⟨#[c]⟩ := by
  obtain ⟨⟨l⟩⟩ := a
  have h' : l = [c] := h
  subst h'
  rfl
theorem op_fIn : OpR X (compareOp .In) (fIn X.K false) := by
  intro pins s σ H x y v u Q I rx ry h
  cases y with
  | str b =>
    cases x with
    | str a =>
      dsimp only [fIn] at h
      split at h
      · rename_i c e
        cases str_one e
        exact op_in_sign pins s σ H _ _ v u Q I rx ry ⟨_, _, rfl, rfl, h⟩
      · exact op_in_str pins s σ H _ _ v u Q I rx ry ⟨_, _, rfl, rfl, h⟩
    | _ => exact False.elim h
  | ref p =>
    have h' : ∃ xs, Rl X.K H p xs ∧ flatV x = true ∧ xs.all flatV = true ∧ Q (.bl (if false = true then !inV x xs else inV x xs)) H := by
      cases x <;> exact h
    obtain ⟨xs, h1, h2, h3, h4⟩ := h'
    exact op_in_seq pins s σ H _ _ v u Q I rx ry ⟨p, xs, rfl, h1, h2, h3, h4⟩
  | _ => cases x <;> exact False.elim h
theorem op_fNotIn : OpR X (compareOp .NotIn) (fIn X.K true) := by
  intro pins s σ H x y v u Q I rx ry h
  cases y with
  | str b =>
    cases x with
    | str a =>
      dsimp only [fIn] at h
      split at h
      · rename_i c e
        cases str_one e
        exact op_notIn_sign pins s σ H _ _ v u Q I rx ry ⟨_, _, rfl, rfl, h⟩
      · exact op_notin_str pins s σ H _ _ v u Q I rx ry ⟨_, _, rfl, rfl, h⟩
    | _ => exact False.elim h
  | ref p =>
    have h' : ∃ xs, Rl X.K H p xs ∧ flatV x = true ∧ xs.all flatV = true ∧ Q (.bl (if true = true then !inV x xs else inV x xs)) H := by
      cases x <;> exact h
    obtain ⟨xs, h1, h2, h3, h4⟩ := h'
    exact op_notIn_seq pins s σ H _ _ v u Q I rx ry ⟨p, xs, rfl, h1, h2, h3, h4⟩
  | _ => cases x <;> exact False.elim h
/-- is, with None on the right -/
def fIsN : R2 := fun x y H Q => y = .non ∧ Q (.bl (decide (x = .non))) H
def fNotN : R2 := fun x y H Q => y = .non ∧ Q (.bl (!decide (x = .non))) H
theorem op_fIsN : OpR X (compareOp .Is) fIsN := op_isN
theorem op_fNotN : OpR X (compareOp .IsNot) fNotN := op_notN
/-- x[i] -/
def fIx (K : PySem.W.Frag) : R2 := fun x y H Q => match x, y with
  | .str z, .int i => z.length ≤ sizeLine ∧ ∃ c, atI z.cps.toList i = some c ∧ Q (.str ⟨#[c]⟩) H
  | .ref p, .int i => ∃ xs, Rl K H p xs ∧ ∃ v, atI xs i = some v ∧ Q v H
  | _, _ => False
theorem ix_fx : IxR X (fIx X.K) := by
  intro e1 e2 pins s σ H x y v u Q I rx ry h hs
  cases x <;> cases y <;> first
    | exact False.elim h
    | (obtain ⟨h1, c, h2, h3⟩ := h
       exact ix_str e1 e2 pins s σ H _ _ v u Q I rx ry ⟨_, _, c, rfl, rfl, h1, h2, h3⟩ hs)
    | (obtain ⟨xs, h1, w, h2, h3⟩ := h
       rcases h1 with h1 | h1
       · exact ix_list e1 e2 pins s σ H _ _ v u Q I rx ry ⟨_, xs, _, w, rfl, rfl, h1, h2, h3⟩ hs
       · exact ix_tup e1 e2 pins s σ H _ _ v u Q I rx ry ⟨_, xs, _, w, rfl, rfl, h1, h2, h3⟩ hs)
/-- x[lo:hi] of a text, of a list -/
def fSl (K : PySem.W.Frag) : V → Option Int → Option Int → Hp → VK → Prop := fun x lo hi H Q => match x with
  | .str z => z.length ≤ sizeLine ∧ Q (.str (cutS z lo hi)) H
  | .ref a => ∃ xs, SqL K H a xs ∧ ∀ p H1, H p = none → Same H H1 → H1 p = some (.lst (cutV xs lo hi)) → Q (.ref p) H1
  | _ => False
theorem sl_fx : SlR X (fSl X.K) := by
  intro pins s σ H x v vl vu lo hi sl Q I rx hs pl pu h
  cases x <;> first
    | exact False.elim h
    | exact sl_str pins s σ H _ v vl vu lo hi sl Q I rx hs pl pu ⟨_, rfl, h⟩
    | (obtain ⟨xs, h1, h2⟩ := h
       exact sl_list pins s σ H _ v vl vu lo hi sl Q I rx hs pl pu ⟨_, xs, rfl, h1, fun p np => h2 p _ np (same_new np) upd_same⟩)
/-- o[i] = v of a list -/
def fSet : TSet := fun o i v H Q => match o, i with
  | .ref p, .int k => match H p with
    | some (.lst xs) => ∃ j, ixN xs.length k = some j ∧ Q (upd H p (.lst (xs.set j v)))
    | _ => False
  | _, _ => False
theorem set_fx : PSet X fSet := by
  intro pins s σ H o i v ov iv u Q I ro ri rv h
  cases o <;> cases i <;> first
    | exact False.elim h
    | (dsimp only [fSet] at h
       split at h
       · obtain ⟨j, h2, h3⟩ := h
         exact set_list pins s σ H _ _ v ov iv u Q I ro ri rv ⟨_, _, _, j, rfl, rfl, by assumption, h2, h3⟩
       · exact h.elim)
/-- name += e -/
def fIAdd : TIp := fun x y H Q => match x, y with
  | .int i, .int j => Q (.int (i + j)) H
  | .str a, .str b => a.length + b.length ≤ sizeLine ∧ Q (.str (a ++ b)) H
  | _, _ => False
theorem ip_fAdd : PIp X .Add fIAdd := by
  intro pins s σ H x y v u Q I rx ry h
  cases x <;> cases y <;> first
    | exact False.elim h
    | exact ip_add pins s σ H _ _ v u Q I rx ry ⟨_, _, rfl, rfl, h⟩
    | exact iop_add_str pins s σ H _ _ v u Q I rx ry ⟨_, _, rfl, rfl, h⟩
def fISub : TIp := fun x y H Q => match x, y with
  | .int i, .int j => Q (.int (i - j)) H
  | _, _ => False
theorem ip_fSub : PIp X .Sub fISub := by
  intro pins s σ H x y v u Q I rx ry h
  cases x <;> cases y <;> first
    | exact False.elim h
    | exact ip_sub pins s σ H _ _ v u Q I rx ry ⟨_, _, rfl, rfl, h⟩
/-! ### built-in calls -/
def fLen (K : PySem.W.Frag) : List V → Hp → VK → Prop := fun xs H Q => match xs with
  | [.str z] => z.length ≤ sizeLine ∧ Q (.int z.length) H
  | [.ref p] => ∃ ys, Rl K H p ys ∧ Q (.int ys.length) H
  | _ => False
theorem call_fLen : CallR X (.builtin "len") (fLen X.K) := by
  intro pins s σ H xs us Q I r h
  match xs, r, h with
  | [.str z], r, h => exact call_len_str pins s σ H _ us Q I r ⟨z, rfl, h⟩
  | [.ref p], r, h =>
    obtain ⟨ys, h1, h2⟩ := h
    exact call_len_seq pins s σ H _ us Q I r ⟨p, ys, rfl, h1, h2⟩
/-- len of a dict -/
def fLenD : List V → Hp → VK → Prop := fun xs H Q => match xs with
  | [.ref p] => ∃ kvs, H p = some (.dK kvs) ∧ Q (.int kvs.length) H
  | _ => False
theorem call_fLenD : CallR X (.builtin "len") fLenD := by
  intro pins s σ H xs us Q I r h
  match xs, r, h with
  | [.ref p], r, h =>
    obtain ⟨kvs, h1, h2⟩ := h
    exact call_lenD pins s σ H _ us Q I r ⟨p, kvs, rfl, h1, h2⟩
def fInt : List V → Hp → VK → Prop := fun xs H Q => match xs with
  | [.int i] => Q (.int i) H
  | [.bl k] => Q (.int (if k then 1 else 0)) H
  | [.str a] => ∃ n, PySem.intText? a = some n ∧ a.length ≤ 640 ∧ Q (.int n) H
  | _ => False
theorem call_fInt : CallR X (.type "int") fInt := by
  intro pins s σ H xs us Q I r h
  match xs, r, h with
  | [.int i], r, h => exact call_int1 pins s σ H _ us Q I r (.inl ⟨i, rfl, h⟩)
  | [.bl k], r, h => exact call_int1 pins s σ H _ us Q I r (.inr ⟨k, rfl, h⟩)
  | [.str a], r, h =>
    obtain ⟨n, h1, h2, h3⟩ := h
    exact call_int_str pins s σ H _ us Q I r ⟨a, n, rfl, h1, h2, h3⟩
def fStr : List V → Hp → VK → Prop := fun xs H Q => match xs with
  | [.int i] => i.natAbs.log2 < 1920 ∧ Q (.str (toString i)) H
  | _ => False
theorem call_fStr : CallR X (.type "str") fStr := by
  intro pins s σ H xs us Q I r h
  match xs, r, h with
  | [.int i], r, h => exact call_str_int pins s σ H _ us Q I r ⟨i, rfl, h⟩
def fAbs : List V → Hp → VK → Prop := fun xs H Q => match xs with
  | [.int i] => Q (.int (if i < 0 then -i else i)) H
  | _ => False
theorem call_fAbs : CallR X (.builtin "abs") fAbs := by
  intro pins s σ H xs us Q I r h
  match xs, r, h with
  | [.int i], r, h => exact call_abs pins s σ H _ us Q I r ⟨i, rfl, h⟩
def fMax : List V → Hp → VK → Prop := fun xs H Q => match xs with
  | [.int i, .int j] => Q (.int (if j > i then j else i)) H
  | _ => False
theorem call_fMax (hc : X.calm = true) : CallR X (.builtin "max") fMax := by
  intro pins s σ H xs us Q I r h
  match xs, r, h with
  | [.int i, .int j], r, h => exact call_max2 hc pins s σ H _ us Q I r ⟨i, j, rfl, h⟩
def fMin : List V → Hp → VK → Prop := fun xs H Q => match xs with
  | [.int i, .int j] => Q (.int (if j < i then j else i)) H
  | _ => False
theorem call_fMin (hc : X.calm = true) : CallR X (.builtin "min") fMin := by
  intro pins s σ H xs us Q I r h
  match xs, r, h with
  | [.int i, .int j], r, h => exact call_min2 hc pins s σ H _ us Q I r ⟨i, j, rfl, h⟩
def fOrd : List V → Hp → VK → Prop := fun xs H Q => match xs with
  | [.str x] => ∃ c, x.cps.toList = [c] ∧ Q (.int (c : Nat)) H
  | _ => False
theorem call_fOrd : CallR X (.builtin "ord") fOrd := by
  intro pins s σ H xs us Q I r h
  match xs, r, h with
  | [.str x], r, h =>
    obtain ⟨c, h1, h2⟩ := h
    cases str_one h1
    exact call_ord pins s σ H _ us Q I r ⟨_, rfl, rfl, h2⟩
def fChr : List V → Hp → VK → Prop := fun xs H Q => match xs with
  | [.int i] => (0 ≤ i ∧ i ≤ 1114111) ∧ Q (.str ⟨#[i.toNat]⟩) H
  | _ => False
theorem call_fChr : CallR X (.builtin "chr") fChr := by
  intro pins s σ H xs us Q I r h
  match xs, r, h with
  | [.int i], r, h => exact call_chr pins s σ H _ us Q I r ⟨i, rfl, h.1.1, h.1.2, h.2⟩
/-- list(x): a new list -/
def fListOf (K : PySem.W.Frag) : List V → Hp → VK → Prop := fun xs H Q => match xs with
  | [.ref p] => ∃ ys, Rl K H p ys ∧ ∀ l H1, H l = none → Same H H1 → H1 l = some (.lst ys) → Q (.ref l) H1
  | _ => False
theorem call_fListOf : CallR X (.type "list") (fListOf X.K) := by
  intro pins s σ H xs us Q I r h
  match xs, r, h with
  | [.ref p], r, h =>
    obtain ⟨ys, h1, h2⟩ := h
    exact call_list_of pins s σ H _ us Q I r ⟨p, ys, rfl, h1, fun l nl => h2 l _ nl (same_new nl) upd_same⟩
/-! ### isinstance of a built-in class -/
/-- a value's built-in class (by the abstract heap), where it is plain -/
def tyOf (H : Hp) : V → Option String
  | .non => some "NoneType"
  | .bl _ => some "bool"
  | .int _ => some "int"
  | .str _ => some "str"
  | .ref a => match H a with
    | some (.lst _) => some "list"
    | some (.tup _) => some "tuple"
    | some (.dK _) => some "dict"
    | some (.dT _) => some "dict"
    | _ => none
  | _ => none
theorem tyX_of {K : PySem.W.Frag} {H : Hp} {x : V} {t : String} (h : tyOf H x = some t) : TyX K H x (.type t) := by
  cases x with
  | non => cases h; exact .base .non
  | bl b => cases h; exact .base (.bl b)
  | int b => cases h; exact .base (.int b)
  | str b => cases h; exact .base (.str b)
  | ref a =>
    dsimp only [tyOf] at h
    split at h <;> first
      | (cases h; exact .base (.lst (by assumption)))
      | (cases h; exact .base (.tup (by assumption)))
      | (cases h; exact .base (.dK (by assumption)))
      | (cases h; exact .base (.dT (by assumption)))
      | cases h
  | _ => cases h
/-- one of some built-in classes -/
def kitBs (t : String) : List V → Option Bool
  | [] => some false
  | .ty n :: cs => match kitB t n, kitBs t cs with
    | some b, some r => some (b || r)
    | _, _ => none
  | _ => none
theorem kitBs_any {K : PySem.W.Frag} {t : String} : ∀ {cs : List V} {r : Bool}, kitBs t cs = some r → ∃ us, Paired ClsV cs us ∧ PySem.W.kitAny K (.type t) us = some r
  | [], r, h => by cases h; exact ⟨[], .nil, kitAny_nil⟩
  | c :: cs, r, h => by
    cases c <;> first
      | cases h
      | (rename_i n
         unfold kitBs at h
         split at h
         · rename_i b r' e e2
           cases h
           obtain ⟨us, p, q⟩ := kitBs_any e2
           refine ⟨_, .cons (.ty n) p, kitAny_cons (kit_ty e) (fun hb => ?_) fun hb => ?_⟩
           · rw [hb]; exact q
           · rw [hb]; rfl
         · cases h)
theorem kitBv : kitB "NoneType" "bool" = some false ∧ kitB "NoneType" "int" = some false ∧ kitB "NoneType" "str" = some false ∧ kitB "NoneType" "list" = some false ∧ kitB "NoneType" "tuple" = some false ∧ kitB "NoneType" "dict" = some false ∧ kitB "bool" "bool" = some true ∧ kitB "bool" "int" = some true ∧ kitB "bool" "str" = some false ∧ kitB "bool" "list" = some false ∧ kitB "bool" "tuple" = some false ∧ kitB "bool" "dict" = some false ∧ kitB "int" "bool" = some false ∧ kitB "int" "int" = some true ∧ kitB "int" "str" = some false ∧ kitB "int" "list" = some false ∧ kitB "int" "tuple" = some false ∧ kitB "int" "dict" = some false ∧ kitB "str" "bool" = some false ∧ kitB "str" "int" = some false ∧ kitB "str" "str" = some true ∧ kitB "str" "list" = some false ∧ kitB "str" "tuple" = some false ∧ kitB "str" "dict" = some false ∧ kitB "list" "bool" = some false ∧ kitB "list" "int" = some false ∧ kitB "list" "str" = some false ∧ kitB "list" "list" = some true ∧ kitB "list" "tuple" = some false ∧ kitB "list" "dict" = some false ∧ kitB "tuple" "bool" = some false ∧ kitB "tuple" "int" = some false ∧ kitB "tuple" "str" = some false ∧ kitB "tuple" "list" = some false ∧ kitB "tuple" "tuple" = some true ∧ kitB "tuple" "dict" = some false ∧ kitB "dict" "bool" = some false ∧ kitB "dict" "int" = some false ∧ kitB "dict" "str" = some false ∧ kitB "dict" "list" = some false ∧ kitB "dict" "tuple" = some false ∧ kitB "dict" "dict" = some true := by decide +kernel
/-- isinstance(x, T), T a built-in class, or a new tuple of such -/
def fIsi : List V → Hp → VK → Prop := fun xs H Q => match xs with
  | [x, .ty n] => ∃ t, tyOf H x = some t ∧ ∃ b, kitB t n = some b ∧ Q (.bl b) H
  | [x, .ref p] => match H p with
    | some (.tup cs) => ∃ t, tyOf H x = some t ∧ ∃ b, kitBs t cs = some b ∧ Q (.bl b) H
    | _ => False
  | _ => False
theorem call_fIsi : CallR X (.builtin "isinstance") fIsi := by
  intro pins s σ H xs us Q I r h
  match xs, r, h with
  | [x, .ty n], r, h =>
    obtain ⟨t, h1, b, h2, h3⟩ := h
    exact call_isi pins s σ H _ us Q I r ⟨x, .ty n, _, _, b, rfl, .ty n, tyX_of h1, kit_ty h2, h3⟩
  | [x, .ref p], r, h =>
    dsimp only [fIsi] at h
    split at h
    · obtain ⟨t, h1, b, h2, h3⟩ := h
      obtain ⟨ws, h4, h5⟩ := kitBs_any h2
      exact call_isiT pins s σ H _ us Q I r ⟨x, p, _, _, ws, b, rfl, by assumption, h4, tyX_of h1, h5, h3⟩
    · exact h.elim
/-! ### methods of built-in types -/
def isLst : V → Hp → Prop := fun x H => match x with
  | .ref p => match H p with
    | some (.lst _) => True
    | _ => False
  | _ => False
theorem isLst_ty {K : PySem.W.Frag} {x : V} {H : Hp} (h : isLst x H) : tyV K "list" x H := by
  unfold isLst at h
  split at h
  · split at h
    · exact .inl ⟨rfl, _, SqL.of (by assumption)⟩
    · exact h.elim
  · exact h.elim
def isDct : V → Hp → Prop := fun x H => match x with
  | .ref p => match H p with
    | some (.dK _) => True
    | _ => False
  | _ => False
theorem isDct_ty {K : PySem.W.Frag} {x : V} {H : Hp} (h : isDct x H) : tyV K "dict" x H := by
  unfold isDct at h
  split at h
  · split at h
    · exact .inr (.inr (.inl ⟨rfl, .inl ⟨_, by assumption⟩⟩))
    · exact h.elim
  · exact h.elim
def isStr : V → Hp → Prop := fun x _ => match x with
  | .str _ => True
  | _ => False
theorem isStr_ty {K : PySem.W.Frag} {x : V} {H : Hp} (h : isStr x H) : tyV K "str" x H := by
  cases x <;> first | exact rfl | exact False.elim h
section
variable {o e : Expr} {es : List Expr} {to te : TE} {t : TA} {apos cpos : Pos} {T id : String} {name : Str} {r : V → List V → Hp → VK → Prop} {ty : V → Hp → Prop}
def fBM0 (ty : V → Hp → Prop) (r : V → List V → Hp → VK → Prop) (to : TE) : TE := fun σ H Q => to σ H fun x H1 => ty x H1 ∧ r x [] H1 Q
def fBM (ty : V → Hp → Prop) (r : V → List V → Hp → VK → Prop) (to : TE) (t : TA) : TE := fun σ H Q => to σ H fun x H1 => ty x H1 ∧ t σ H1 fun xs H2 => r x xs H2 Q
theorem fe_bm0 (pa : PlainAttrs T) (slot : Slot T name id) (hty : typeOf (.builtin id) = pure (.type "method_descriptor")) (hT : ∀ {K : PySem.W.Frag} {x : V} {H : Hp}, ty x H → tyV K T x H) (hm : MtR X id r) (ho : PE X o to)
    (hbase : attributeBase o name X.env (eval o X.env) = eval o X.env := by rfl) (hline : (apos.endLine == cpos.line) = true := by rfl) : PE X (.Call (.Attribute o name apos) [] [] cpos) (fBM0 ty r to) := by
  refine ⟨fun pins s σ H Q I h => ?_⟩
  refine wpAny_Call_method0_late hbase hline (thn (ho.run pins s σ H _ I h) fun v s1 ⟨x, H1, I1, r1, tyx, q1⟩ => ?_)
  obtain ⟨h1, h2⟩ := tyV_is I1 r1 (hT tyx)
  exact ⟨T, id, pa, slot, hty, h1, h2, Calls.callWith_builtin rfl (PySem.evalArgs_none (hm pins s1 σ H1 x [] v [] Q I1 r1 .nil q1))⟩
theorem fe_bm (pa : PlainAttrs T) (slot : Slot T name id) (hty : typeOf (.builtin id) = pure (.type "method_descriptor")) (hT : ∀ {K : PySem.W.Frag} {x : V} {H : Hp}, ty x H → tyV K T x H) (hm : MtR X id r) (ho : PE X o to) (ha : PA X (e :: es) t)
    (hbase : attributeBase o name X.env (eval o X.env) = eval o X.env := by rfl)
    (hfew : ((backTo cpos (starEach (e :: es) X.env)).all (fun x => !x.1) && (backToKw cpos (keywordEach [] X.env)).all (fun x => x.1.isSome)
      && decide ((e :: es).length + ([] : List Keyword).length + (if ([] : List Keyword).isEmpty then 0 else 1) < 30)) = true := by rfl)
    (hline : (apos.endLine == cpos.line) = true := by rfl) (hs : starEach (e :: es) X.env = (false, eval e X.env) :: starEach es X.env := by rfl) (hplain : (backTo cpos (starEach es X.env)).any (·.1) = false := by rfl) :
    PE X (.Call (.Attribute o name apos) (e :: es) [] cpos) (fBM ty r to t) := by
  refine ⟨fun pins s σ H Q I h => ?_⟩
  refine wpAny_Call_method_late hbase hfew hline rfl (thn (ho.run pins s σ H _ I h) fun v s1 ⟨x, H1, I1, r1, tyx, q1⟩ => ?_)
  obtain ⟨h1, h2⟩ := tyV_is I1 r1 (hT tyx)
  refine ⟨T, id, pa, slot, hty, h1, h2, ?_⟩
  have hA := ha.run cpos pins s1 σ H1 _ I1 q1
  rw [hs] at hA ⊢
  refine Calls.callWith_builtin (by show (false || (backTo cpos (starEach es X.env)).any (·.1)) = false; rw [hplain] <;> rfl) (Calls.evalArgs_plain ?_)
  exact thn hA fun us s2 ⟨vs, H2, I2, r2, q2⟩ => hm pins s2 σ H2 x vs v us Q I2 r1 r2 q2
end
def fAppend : V → List V → Hp → VK → Prop := fun x vs H Q => match x, vs with
  | .ref l, [y] => match H l with
    | some (.lst xs) => xs.length < sizeLine ∧ Q .non (upd H l (.lst (xs ++ [y])))
    | _ => False
  | _, _ => False
theorem mt_fAppend : MtR X "list.append" fAppend := by
  intro pins s σ H x xs v us Q I rx rs h
  unfold fAppend at h
  split at h
  · split at h
    · exact mt_append pins s σ H _ _ v us Q I rx rs ⟨_, _, _, rfl, rfl, by assumption, h⟩
    · exact h.elim
  · exact h.elim
/-- a text's method with one text, by its function -/
def fS1 (g : Str → Str → V) : V → List V → Hp → VK → Prop := fun x vs H Q => match x, vs with
  | .str a, [.str b] => Q (g a b) H
  | _, _ => False
theorem mt_fS1 {id : String} {g : Str → Str → V} (h : MtR X id (fun x xs H Q => ∃ a b, x = .str a ∧ xs = [.str b] ∧ Q (g a b) H)) : MtR X id (fS1 g) := by
  intro pins s σ H x xs v us Q I rx rs q
  unfold fS1 at q
  split at q
  · exact h pins s σ H _ _ v us Q I rx rs ⟨_, _, rfl, rfl, q⟩
  · exact q.elim
theorem mt_fCount : MtR X "str.count" (fS1 fun a b => .int (Txt.count a b)) := mt_fS1 mt_count
theorem mt_fFind : MtR X "str.find" (fS1 fun a b => .int (Txt.find a b)) := mt_fS1 mt_find
theorem mt_fRfind : MtR X "str.rfind" (fS1 fun a b => .int (Txt.rfind a b)) := mt_fS1 mt_rfind
theorem mt_fStarts : MtR X "str.startswith" (fS1 fun a b => .bl (Txt.startswith a b)) := mt_fS1 mt_startswith
theorem mt_fEnds : MtR X "str.endswith" (fS1 fun a b => .bl (Txt.endswith a b)) := mt_fS1 mt_endswith

/-! ### statements, loops -/
theorem seq_ {t1 t2 : TS} {D : Ends} {σ : L2.St} {H : Hp} (h : ∀ N : L2.St → Hp → Prop, (∀ σ H, t2 D σ H → N σ H) → t1 { D with nx := N } σ H) : tSeq t1 t2 D σ H := h _ fun _ _ x => x
/-- what follows is a word of its own -/
theorem cut_ {t : TS} {D : Ends} {σ : L2.St} {H : Hp} (h : ∀ N : L2.St → Hp → Prop, (∀ σ H, D.nx σ H → N σ H) → t { D with nx := N } σ H) : t D σ H := h _ fun _ _ x => x
theorem ifs_ {c : TT} {t u : TS} {D : Ends} {σ : L2.St} {H : Hp} (h : c σ H fun b H1 => if b = true then t D σ H1 else u D σ H1) : tIfS c t u D σ H := h
/-- a loop that is at hand -/
def Loop (J : It) (g : TG) (tb : TS) (D : Ends) (σ : L2.St) (H : Hp) : Prop := ∃ W : Nat → Nat → L2.St → Hp → Prop, (∃ m, W 0 m σ H) ∧ ∀ i m σ H, W i m σ H →
  (J.stop i H ∧ D.nx σ H) ∨ (J.go i H ∧ ∃ N : L2.St → Hp → Prop, (∀ σ' H', N σ' H' → ∃ m', m' < m ∧ W (i + 1) m' σ' H') ∧ ∀ x H', J.yld i H x H' → g x σ H' fun σ2 H2 => tb { D with nx := N, ct := N, bk := D.nx } σ2 H2)
theorem for_eq (wi : TI) (g : TG) (tb : TS) (D : Ends) (σ : L2.St) (H : Hp) : tFor wi g tb D σ H = wi σ H fun J H1 => Loop J g tb D σ H1 := rfl
theorem for_ {wi : TI} {g : TG} {tb : TS} {D : Ends} {σ : L2.St} {H : Hp} (h : wi σ H fun J H1 => Loop J g tb D σ H1) : tFor wi g tb D σ H := h
theorem loop_range {lo : Int} {n : Nat} {g : TG} {tb : TS} {D : Ends} {σ : L2.St} {H : Hp} (Pv : Nat → L2.St → Hp → Prop) (h0 : Pv 0 σ H)
    (hs : ∀ i σ H, i < n → Pv i σ H → g (.int (lo + i)) σ H fun σ2 H2 => tb { D with nx := Pv (i + 1), ct := Pv (i + 1), bk := D.nx } σ2 H2) (hd : ∀ σ H, Pv n σ H → D.nx σ H) : Loop (Itr lo n) g tb D σ H := for_range Pv h0 hs hd
theorem loop_list {K : PySem.W.Frag} {a : Addr} {g : TG} {tb : TS} {D : Ends} {σ : L2.St} {H : Hp} (xs : List V) (Pv : Nat → L2.St → Hp → Prop) (h0 : Pv 0 σ H) (hl : ∀ i σ H, i ≤ xs.length → Pv i σ H → SqL K H a xs)
    (hs : ∀ i x σ H, xs[i]? = some x → Pv i σ H → g x σ H fun σ2 H2 => tb { D with nx := Pv (i + 1), ct := Pv (i + 1), bk := D.nx } σ2 H2) (hd : ∀ σ H, Pv xs.length σ H → D.nx σ H) : Loop (Itl K a) g tb D σ H := for_list Pv h0 hl hs hd
theorem loop_tup {K : PySem.W.Frag} {a : Addr} {g : TG} {tb : TS} {D : Ends} {σ : L2.St} {H : Hp} (xs : List V) (Pv : Nat → L2.St → Hp → Prop) (h0 : Pv 0 σ H) (hl : ∀ i σ H, i ≤ xs.length → Pv i σ H → SqT K H a xs)
    (hs : ∀ i x σ H, xs[i]? = some x → Pv i σ H → g x σ H fun σ2 H2 => tb { D with nx := Pv (i + 1), ct := Pv (i + 1), bk := D.nx } σ2 H2) (hd : ∀ σ H, Pv xs.length σ H → D.nx σ H) : Loop (Itt K a) g tb D σ H := for_tup Pv h0 hl hs hd
theorem loop_str {z : Str} {g : TG} {tb : TS} {D : Ends} {σ : L2.St} {H : Hp} (Pv : Nat → L2.St → Hp → Prop) (h0 : Pv 0 σ H)
    (hs : ∀ i c σ H, z.cps.toList[i]? = some c → Pv i σ H → g (.str ⟨#[c]⟩) σ H fun σ2 H2 => tb { D with nx := Pv (i + 1), ct := Pv (i + 1), bk := D.nx } σ2 H2) (hd : ∀ σ H, Pv z.length σ H → D.nx σ H) : Loop (Its z) g tb D σ H :=
  for_it walk_str Pv h0 (fun _ _ _ _ _ => trivial) (fun i x σ H H' hi p y => by
    obtain ⟨rfl, c, hc, rfl⟩ := y
    exact hs i c σ _ (by rw [Array.getElem?_toList]; exact hc) p) hd
end
end Fx

/-! ### defs by name -/
namespace Fx
open PySem PySem.Spec PyProof.Rows L2
/-- the def that stands at the module's name x keeps the promise sp -/
structure Has (P : Program) (w : World) (K : PySem.W.Frag) (mg : Str → Option Value) (base : Heap) (CX : CXT) (x : Str) (k : Nat) (ps : List Str) (sp : Sp) : Prop where
  ex : ∃ (f : Addr) (fd : FuncData), FnOk P w K mg base CX k f fd ps sp ∧ Binds K fd ps [] ∧ mg x = some (.ref f) ∧ PySem.W.keepIn K (.ref f) = true
/-- what the top has written of a def -/
structure FnFact (K : PySem.W.Frag) (x qual : Str) (st : Stmt) : Prop where
  ex : ∃ (f : Addr) (oc : Value) (od an : Option Addr) (sl : Array (Option Value)) (kV dc pm cd ct : Value),
    PySem.W.nsIn K mainGlobals x = some (some (.ref f)) ∧ K.lookup f = some ⟨oc, od, .func (PySem.W.fnOf x qual (defArgs st) (defBody st) (defScope st) .none kV dc pm an cd ct), sl⟩ ∧
    PySem.W.codeIn K cd qual = true ∧ PySem.W.keepIn K (.ref f) = true
theorem FnFact.of {K : PySem.W.Frag} {x qual : Str} {st : Stmt} {f : Addr} {oc : Value} {od an : Option Addr} {sl : Array (Option Value)} {kV dc pm cd ct : Value}
    (a : PySem.W.nsIn K mainGlobals x = some (some (.ref f))) (l : K.lookup f = some ⟨oc, od, .func (PySem.W.fnOf x qual (defArgs st) (defBody st) (defScope st) .none kV dc pm an cd ct), sl⟩)
    (c : PySem.W.codeIn K cd qual = true) (k : PySem.W.keepIn K (.ref f) = true) : FnFact K x qual st := ⟨f, oc, od, an, sl, kV, dc, pm, cd, ct, a, l, c, k⟩
/-- a def as it stands -/
structure At (K : PySem.W.Frag) (mg : Str → Option Value) (x qual : Str) (st : Stmt) (ps : List Str) : Prop where
  ex : ∃ (f : Addr) (fd : FuncData), Fun K x qual st f fd ∧ Binds K fd ps [] ∧ mg x = some (.ref f)
theorem At.of {K : PySem.W.Frag} {mg : Str → Option Value} {x qual : Str} {st : Stmt} {ps : List Str} {h : Heap} (X : K.In h) (G : h.Ns mainGlobals mg) (F : FnFact K x qual st)
    (hb : ∀ (kV doc pm : Value) (an : Option Addr) (cdv ct : Value) (us : List Value), us.length = ps.length → bindArgs (PySem.W.fnOf x qual (defArgs st) (defBody st) (defScope st) .none kV doc pm an cdv ct) ⟨us, []⟩ = pure (ps.zip us)) : At K mg x qual st ps := by
  obtain ⟨f, oc, od, an, sl, kV, dc, pm, cd, ct, a, l, c, k⟩ := F.ex
  have F1 := fun_mk (st := st) l c k
  exact ⟨_, _, F1, F1.binds hb, PySem.W.mg_of X G a⟩
section
variable {P : Program} {w : World} {K : PySem.W.Frag} {mg : Str → Option Value} {base : Heap}
theorem has_of {x qual : Str} {st : Stmt} {N ps : List Str} {k : Nat} {sp : Sp} (A : At K mg x qual st ps) (S : FnScope N ps (defScope st)) (len : ∀ vs H Q E, sp vs H Q E → vs.length = ps.length)
    (hbody : ∀ (cdv : Value) (f : Addr) (A : Around) (outer : List Env) (s : Shared) (H : Hp) (vs : List V) (Q : VK) (E : XK), Room k (A.deeper (envOfC qual (defScope st) s.heap.objs.size f cdv)) → sp vs H Q E →
      ∃ t, PSs (cxOf CX0 P w K mg base N qual (defScope st) f cdv A outer s H E).nox (defBody st) t ∧ t { nx := fun _ H' => Q .non H', rt := Q } (start N vs) H) : Has P w K mg base CX0 x (k + 1) ps sp := by
  obtain ⟨f, fd, F, B, G⟩ := A.ex
  exact ⟨f, fd, F.ok S len fun cdv A outer s H vs Q E hr h => hbody cdv f A outer s H vs Q E hr h, B, G, F.kp⟩
def spNone : Sp := fun _ _ _ _ => False
/-- a def of which nothing is promised -/
theorem At.never {x qual : Str} {st : Stmt} {ps : List Str} (A : At K mg x qual st ps) : Has P w K mg base CX0 x 0 ps spNone := by
  obtain ⟨f, fd, F, B, G⟩ := A.ex
  exact ⟨f, fd, ⟨fun _ _ _ _ h => h.elim, fun _ _ _ _ _ _ _ _ _ _ _ _ _ h => h.elim⟩, B, G, F.kp⟩
theorem Has.mono {CX : CXT} {x : Str} {j k : Nat} {ps : List Str} {sp : Sp} (h : Has P w K mg base CX x j ps sp) (hk : j ≤ k) : Has P w K mg base CX x k ps sp := by
  obtain ⟨f, fd, F, B, G, kp⟩ := h.ex
  exact ⟨f, fd, F.mono hk, B, G, kp⟩
end
section
variable {X : Cx} {CX : CXT} {k : Nat} {x : Str} {p pos : Pos} {e : Expr} {es : List Expr} {t : TA} {ps : List Str} {sp : Sp} {E : XK}
theorem fe_call (h : Has X.prog X.w X.K X.mg X.base CX x k ps sp) (hr : Room k X.A) (hg : Gl X x) (hx : Passes CX X E) (ha : PA X (e :: es) t) (hd : (x == ("__debug__" : Str)) = false := by decide)
    (hs : starEach (e :: es) X.env = (false, eval e X.env) :: starEach es X.env := by rfl) (hplain : (backTo pos (starEach es X.env)).any (·.1) = false := by rfl) : PE X (.Call (.Name x p) (e :: es) [] pos) (tCall sp [] E t) := by
  obtain ⟨f, fd, F, B, G, kp⟩ := h.ex
  exact pe_call F hr hg G kp B .nil hx ha hd hs hplain
theorem fe_call0 (h : Has X.prog X.w X.K X.mg X.base CX x k ps sp) (hr : Room k X.A) (hg : Gl X x) (hx : Passes CX X E) (hd : (x == ("__debug__" : Str)) = false := by decide) : PE X (.Call (.Name x p) [] [] pos) (tCall sp [] E tNil) := by
  obtain ⟨f, fd, F, B, G, kp⟩ := h.ex
  exact pe_call0 F hr hg G kp B .nil hx hd
end
end Fx

namespace Fx
open PySem PySem.Spec PyProof.Rows L2
section
variable {X : Cx}
/-- a built-in class as a value -/
theorem fe_ty {x : Str} {n : String} {pos : Pos} (hg : Gl X x) (hm : X.mg x = none) (hv : bootBuiltins x = some (.type n)) (hn : x ≠ "__name__" := by decide) (hd : (x == ("__debug__" : Str)) = false := by decide) : PE X (.Name x pos) (tC (.ty n)) := pe_bltn hg hm hv rfl hn hd
end
/-! ### texts as lists -/
def S (l : List Nat) : Str := ⟨l.toArray⟩
def L (z : Str) : List Nat := z.cps.toList
theorem S_L (z : Str) : S (L z) = z := by
  obtain ⟨⟨l⟩⟩ := z
  rfl
theorem L_S (l : List Nat) : L (S l) = l := rfl
theorem S_len (l : List Nat) : (S l).length = l.length := by simp [S, Str.length]
theorem L_len (z : Str) : (L z).length = z.length := by simp [L, Str.length]
theorem S_app (a b : List Nat) : S a ++ S b = S (a ++ b) := by
  show (⟨a.toArray ++ b.toArray⟩ : Str) = ⟨(a ++ b).toArray⟩
  simp
theorem S_cps (l : List Nat) : (S l).cps.toList = l := by simp [S]
theorem S_one (c : Nat) : (⟨#[c]⟩ : Str) = S [c] := rfl
theorem S_inj {a b : List Nat} (h : S a = S b) : a = b := by
  have := congrArg L h
  exact this
theorem cut_take (l : List Nat) {o : Int} (h0 : 0 ≤ o) (h1 : o ≤ l.length) : cutS (S l) none (some o) = S (l.take o.toNat) := by
  unfold cutS
  obtain ⟨k, rfl⟩ := Int.eq_ofNat_of_zero_le h0
  have e : HT.sIx (S l).length (S l).length (some (k : Int)) = min k (S l).length := HT.sIx_nat _ _ _
  rw [HT.sIx_none, e, S_len, S_cps]
  have : min k l.length = k := by omega
  rw [this]
  simp [S]
theorem cut_drop (l : List Nat) {o : Int} (h0 : 0 ≤ o) (h1 : o ≤ l.length) : cutS (S l) (some o) none = S (l.drop o.toNat) := by
  unfold cutS
  obtain ⟨k, rfl⟩ := Int.eq_ofNat_of_zero_le h0
  have e : HT.sIx (S l).length 0 (some (k : Int)) = min k (S l).length := HT.sIx_nat _ _ _
  rw [HT.sIx_none, e, S_len, S_cps]
  have : min k l.length = k := by omega
  rw [this]
  have : (l.drop k).take (l.length - k) = l.drop k := List.take_of_length_le (by rw [List.length_drop]; omega)
  simp [S, this]
theorem cut_mid (l : List Nat) {a b : Int} (h0 : 0 ≤ a) (h1 : a ≤ b) (h2 : b ≤ l.length) : cutS (S l) (some a) (some b) = S ((l.drop a.toNat).take (b.toNat - a.toNat)) := by
  unfold cutS
  obtain ⟨k, rfl⟩ := Int.eq_ofNat_of_zero_le h0
  obtain ⟨m, rfl⟩ := Int.eq_ofNat_of_zero_le (Int.le_trans h0 h1)
  have e1 : HT.sIx (S l).length 0 (some (k : Int)) = min k (S l).length := HT.sIx_nat _ _ _
  have e2 : HT.sIx (S l).length (S l).length (some (m : Int)) = min m (S l).length := HT.sIx_nat _ _ _
  rw [e1, e2, S_len, S_cps]
  have q1 : min k l.length = k := by omega
  have q2 : min m l.length = m := by omega
  rw [q1, q2]
  rfl
theorem len_line {n : Nat} (h : n ≤ 100000) : n ≤ sizeLine := Nat.le_trans h (by decide)
theorem len_line' {n : Nat} (h : n < 100000) : n < sizeLine := Nat.lt_of_lt_of_le h (by decide)
theorem small_div {i j : Int} (h : 0 < j) (h2 : j < 1073741824) : CDivW i j := wide_div (b := 30) h (by omega) (by decide) (by decide)
theorem mul_left {i j : Int} (h : -(2 ^ 64) < i) (h2 : i < 2 ^ 64) : IntMulOk i j := CMul.ok (.inl ⟨h, h2⟩)
theorem mul_right {i j : Int} (h : -(2 ^ 64) < j) (h2 : j < 2 ^ 64) : IntMulOk i j := CMul.ok (.inr ⟨h, h2⟩)
theorem same_mut {H H' : Hp} {p : Addr} {o : HO} (s : Same H H') (h : H p = none) : Same H (upd H' p o) := fun b x e => by
  rw [upd_ne (ne_of_none e h)]
  exact s b x e
theorem ex2 {α β : Type} {a : α} {b : β} {P : α → β → Prop} : (∃ i j, (a = i ∧ b = j) ∧ P i j) ↔ P a b := ⟨fun ⟨_, _, ⟨e1, e2⟩, h⟩ => e1 ▸ e2 ▸ h, fun h => ⟨a, b, ⟨rfl, rfl⟩, h⟩⟩
theorem at_ints {ns : List Int} {i : Int} (h0 : 0 ≤ i) (h1 : i < ns.length) : ∃ z, atI (ns.map V.int) i = some (.int z) := by
  obtain ⟨k, rfl⟩ := Int.eq_ofNat_of_zero_le h0
  have hk : k < ns.length := by omega
  exact ⟨ns[k], atI_nat (by rw [List.getElem?_map, List.getElem?_eq_getElem hk]; rfl)⟩
theorem at_strs {ns : List Str} {i : Int} (h0 : 0 ≤ i) (h1 : i < ns.length) : ∃ z, z ∈ ns ∧ atI (ns.map V.str) i = some (.str z) := by
  obtain ⟨k, rfl⟩ := Int.eq_ofNat_of_zero_le h0
  have hk : k < ns.length := by omega
  exact ⟨ns[k], List.getElem_mem hk, atI_nat (by rw [List.getElem?_map, List.getElem?_eq_getElem hk]; rfl)⟩
theorem getD_eq {α : Type} {ns : List α} {i : Nat} (d : α) (h : i < ns.length) : ns.getD i d = ns[i] := by
  simp [List.getD, List.getElem?_eq_getElem h]
theorem at_getD {ns : List Str} {i : Int} (d : Str) (h0 : 0 ≤ i) (h1 : i < ns.length) : atI (ns.map V.str) i = some (.str (ns.getD i.toNat d)) := by
  obtain ⟨k, rfl⟩ := Int.eq_ofNat_of_zero_le h0
  have hk : k < ns.length := by omega
  refine atI_nat ?_
  rw [List.getElem?_map, List.getElem?_eq_getElem hk, Int.toNat_natCast, getD_eq _ hk]
  rfl
theorem at_getN {ns : List Nat} {i : Int} (d : Nat) (h0 : 0 ≤ i) (h1 : i < ns.length) : atI ns i = some (ns.getD i.toNat d) := by
  obtain ⟨k, rfl⟩ := Int.eq_ofNat_of_zero_le h0
  have hk : k < ns.length := by omega
  refine atI_nat ?_
  rw [List.getElem?_eq_getElem hk, Int.toNat_natCast, getD_eq _ hk]
theorem getD_mem {α : Type} {ns : List α} {i : Nat} (d : α) (h : i < ns.length) : ns.getD i d ∈ ns := by
  rw [getD_eq _ h]
  exact List.getElem_mem h
theorem at_ints_mem {ns : List Int} {i : Int} (h0 : 0 ≤ i) (h1 : i < ns.length) : ∃ z, z ∈ ns ∧ atI (ns.map V.int) i = some (.int z) := by
  obtain ⟨k, rfl⟩ := Int.eq_ofNat_of_zero_le h0
  have hk : k < ns.length := by omega
  exact ⟨ns[k], List.getElem_mem hk, atI_nat (by rw [List.getElem?_map, List.getElem?_eq_getElem hk]; rfl)⟩
theorem emod_lo (r : Int) {m : Int} (h : 0 < m) : 0 ≤ r % m := Int.emod_nonneg _ (by omega)
theorem emod_hi (r : Int) {m : Int} (h : 0 < m) : r % m < m := Int.emod_lt_of_pos _ h
theorem at_vs {xs : List V} {i : Int} (h0 : 0 ≤ i) (h1 : i < xs.length) : ∃ z, z ∈ xs ∧ atI xs i = some z := by
  obtain ⟨k, rfl⟩ := Int.eq_ofNat_of_zero_le h0
  have hk : k < xs.length := by omega
  exact ⟨xs[k], List.getElem_mem hk, atI_nat (List.getElem?_eq_getElem hk)⟩
end Fx

/-! ### constants of the module, more of texts -/
namespace Fx
open PySem PySem.Spec PyProof.Rows L2
theorem one_list (c : Nat) : (⟨#[c]⟩ : Str).cps.toList = [c] := rfl
theorem absV_rel {u : Value} {x : V} (h : absV u = some x) : RelV x u := by
  cases u <;> first
    | (cases h; rfl)
    | (cases h; exact ⟨_, rfl⟩)
    | cases h
def absVs : List Value → Option (List V)
  | [] => some []
  | u :: us => match absV u, absVs us with
    | some x, some xs => some (x :: xs)
    | _, _ => none
theorem absVs_rel : ∀ {us : List Value} {xs : List V}, absVs us = some xs → Vals xs us
  | [], xs, h => by cases h; exact .nil
  | u :: us, xs, h => by
    unfold absVs at h
    split at h
    · rename_i x ys h1 h2
      cases h
      exact .cons (absV_rel h1) (absVs_rel h2)
    · cases h
/-- a tuple of the module -/
structure TupFact (K : PySem.W.Frag) (x : Str) (xs : List V) : Prop where
  ex : ∃ (a : Addr) (od : Option Addr) (its : Array Value) (n : Nat) (sl : Array (Option Value)), PySem.W.nsIn K mainGlobals x = some (some (.ref a)) ∧ K.lookup a = some ⟨.type "tuple", od, .seq its n, sl⟩ ∧ absVs its.toList = some xs ∧ its.size ≤ 1000
theorem TupFact.of {K : PySem.W.Frag} {x : Str} {xs : List V} {a : Addr} {od : Option Addr} {its : Array Value} {n : Nat} {sl : Array (Option Value)} (h1 : PySem.W.nsIn K mainGlobals x = some (some (.ref a))) (h2 : K.lookup a = some ⟨.type "tuple", od, .seq its n, sl⟩)
    (h3 : absVs its.toList = some xs) (h4 : its.size ≤ 1000) : TupFact K x xs := ⟨a, od, its, n, sl, h1, h2, h3, h4⟩
theorem gstr_of {K : PySem.W.Frag} {x z : Str} {t : Tok} (h : PySem.W.nsIn K mainGlobals x = some (some (.str z t))) : ∃ t, PySem.W.nsIn K mainGlobals x = some (some (.str z t)) := ⟨t, h⟩
theorem gint_of {K : PySem.W.Frag} {x : Str} {z : Int} {t : Tok} (h : PySem.W.nsIn K mainGlobals x = some (some (.int z t))) : ∃ t, PySem.W.nsIn K mainGlobals x = some (some (.int z t)) := ⟨t, h⟩
def GTup (K : PySem.W.Frag) (mg : Str → Option Value) (x : Str) (xs : List V) : Prop := ∃ a, mg x = some (.ref a) ∧ ∀ H, SqT K H a xs
theorem TupFact.get {K : PySem.W.Frag} {mg : Str → Option Value} {x : Str} {xs : List V} {h : Heap} (X : K.In h) (G : h.Ns mainGlobals mg) (F : TupFact K x xs) : GTup K mg x xs := by
  obtain ⟨a, od, its, n, sl, h1, h2, h3, h4⟩ := F.ex
  exact ⟨a, PySem.W.mg_of X G h1, fun H => .inr ⟨_, its, n, h2, rfl, rfl, Nat.le_trans h4 (by decide), absVs_rel h3⟩⟩
def fGt_ (K : PySem.W.Frag) (xs : List V) : TE := fun _ H Q => ∀ a, (∀ H', SqT K H' a xs) → Q (.ref a) H
section
variable {X : Cx} {x : Str} {pos : Pos}
theorem fe_gstr {z : Str} (hg : Gl X x) (h : ∃ t, X.mg x = some (.str z t)) (hd : (x == ("__debug__" : Str)) = false := by decide) : PE X (.Name x pos) (tC (.str z)) := by
  obtain ⟨t, h⟩ := h
  exact pe_glob hg h ⟨t, rfl⟩ hd
theorem fe_gint {z : Int} (hg : Gl X x) (h : ∃ t, X.mg x = some (.int z t)) (hd : (x == ("__debug__" : Str)) = false := by decide) : PE X (.Name x pos) (tC (.int z)) := by
  obtain ⟨t, h⟩ := h
  exact pe_glob hg h ⟨t, rfl⟩ hd
theorem fe_gtup {xs : List V} (hg : Gl X x) (h : GTup X.K X.mg x xs) (hd : (x == ("__debug__" : Str)) = false := by decide) : PE X (.Name x pos) (fGt_ X.K xs) := by
  obtain ⟨a, h, hs⟩ := h
  exact pe_wk (pe_glob hg h (v := .ref a) rfl hd) fun σ H Q q => q a hs
/-- ''.join(list or tuple of texts) -/
def fJoin (K : PySem.W.Frag) : V → List V → Hp → VK → Prop := fun x vs H Q => match x, vs with
  | .str a, [.ref p] => ∃ ys : List Str, Rl K H p (ys.map V.str) ∧ (ys.map (·.length)).sum + ys.length * a.length ≤ 16777216 ∧ Q (.str (Txt.join a ys)) H
  | _, _ => False
theorem mt_fJoin : MtR X "str.join" (fJoin X.K) := by
  intro pins s σ H x xs v us Q I rx rs q
  unfold fJoin at q
  split at q
  · obtain ⟨ys, h1, h2, h3⟩ := q
    exact mt_join pins s σ H _ _ v us Q I rx rs ⟨_, _, ys, rfl, rfl, h1, h2, h3⟩
  · exact q.elim
def fLstripC : V → List V → Hp → VK → Prop := fun x vs H Q => match x, vs with
  | .str a, [.str b] => a.length ≤ sizeLine ∧ Q (.str (Txt.lstripChars a b)) H
  | _, _ => False
theorem mt_fLstripC : MtR X "str.lstrip" fLstripC := by
  intro pins s σ H x xs v us Q I rx rs q
  unfold fLstripC at q
  split at q
  · exact mt_lstripChars pins s σ H _ _ v us Q I rx rs ⟨_, _, rfl, rfl, q⟩
  · exact q.elim
end
theorem join_ones : ∀ cs : List Nat, Txt.join (S []) (cs.map fun c => S [c]) = S cs := by
  intro cs
  show (⟨_⟩ : Str) = ⟨_⟩
  congr 1
  cases cs with
  | nil => rfl
  | cons c r =>
    have go : ∀ (r : List Nat) (acc : List Nat), ((r.map fun c => S [c]).foldl (fun (acc : Array Nat) (p : Str) => acc ++ (S []).cps ++ p.cps) acc.toArray) = (acc ++ r).toArray := by
      intro r
      induction r with
      | nil => intro acc; simp
      | cons d r ih =>
        intro acc
        rw [List.map_cons, List.foldl_cons]
        have e : acc.toArray ++ (S []).cps ++ (S [d]).cps = (acc ++ [d]).toArray := by simp [S]
        rw [e, ih, List.append_assoc]
        rfl
    have := go r [c]
    simpa [S] using this
theorem drop_tw (p : Nat → Bool) : ∀ l : List Nat, l.drop (l.takeWhile p).length = l.dropWhile p
  | [] => rfl
  | c :: r => by
    rw [List.takeWhile_cons, List.dropWhile_cons]
    by_cases h : p c = true
    · rw [if_pos h, if_pos h, List.length_cons, List.drop_succ_cons, drop_tw p r]
    · rw [if_neg h, if_neg h, List.length_nil, List.drop_zero]
theorem lstrip_zero (l : List Nat) (b : Nat) : Txt.lstripChars (S l) (S [b]) = S (l.dropWhile (· == b)) := by
  have hp : ((S [b]).cps.contains : Nat → Bool) = (· == b) := by
    funext c
    simp only [S, List.contains_toArray, List.contains_cons, List.contains_nil, Bool.or_false]
  unfold Txt.lstripChars
  rw [hp]
  have ht : (stripLo (· == b) true (S l)) = (l.takeWhile (· == b)).length := rfl
  unfold Txt.stripBy
  split
  · rename_i h
    unfold stripSame at h
    have h0 : stripLo (· == b) true (S l) = 0 := by
      have := (Bool.and_eq_true_iff.mp h).1
      exact eq_of_beq this
    rw [ht] at h0
    rw [← drop_tw, h0, List.drop_zero]
  · unfold stripped
    rw [ht]
    have e : stripHi (· == b) false (S l) (l.takeWhile (· == b)).length = (S l).length := rfl
    rw [e, ← drop_tw]
    have := StrLaws.strSub_toList (S l) (l.takeWhile (· == b)).length (S l).length
    rw [← S_L (Builtin.Str.strSub _ _ _)]
    congr 1
    show (Builtin.Str.strSub _ _ _).cps.toList = _
    rw [this, S_cps, S_len]
    exact List.take_of_length_le (by rw [List.length_drop]; exact Nat.le_refl _)
end Fx

set_option Elab.async false
set_option linter.all false
set_option maxRecDepth 100000
/-! the tokens of a text, in plain Lean -/
namespace Tk
open PySem Fx L2

def isLet (c : Nat) : Bool := (decide (65 ≤ c) && decide (c ≤ 90)) || (decide (97 ≤ c) && decide (c ≤ 122)) || decide (c = 95)
def isDig (c : Nat) : Bool := decide (48 ≤ c) && decide (c ≤ 57)
def isAl (c : Nat) : Bool := isLet c || isDig c
def isCh (c : Nat) : Bool := decide (c = 10) || (decide (32 ≤ c) && decide (c ≤ 126) && decide (c ≠ 37))
abbrev LETTERS : Str := "ABCDEFGHIJKLMNOPQRSTUVWXYZabcdefghijklmnopqrstuvwxyz_"
abbrev DIGITS : Str := "0123456789"
abbrev SINGLE : Str := "()[]{},;:.=<>+-*/"
theorem let_mem (c : Nat) : decide (c ∈ L LETTERS) = isLet c := by
  have e : L LETTERS = List.range' 65 26 ++ List.range' 97 26 ++ [95] := by decide +kernel
  rw [e]
  unfold isLet
  rw [Bool.eq_iff_iff]
  simp only [decide_eq_true_eq, List.mem_append, List.mem_range'_1, List.mem_singleton, Bool.or_eq_true, Bool.and_eq_true]
  omega
theorem dig_mem (c : Nat) : decide (c ∈ L DIGITS) = isDig c := by
  have e : L DIGITS = List.range' 48 10 := by decide +kernel
  rw [e]
  unfold isDig
  rw [Bool.eq_iff_iff]
  simp only [decide_eq_true_eq, List.mem_range'_1, Bool.and_eq_true]
  omega
theorem al_mem (c : Nat) : decide (c ∈ L (LETTERS ++ DIGITS)) = isAl c := by
  have e : L (LETTERS ++ DIGITS) = L LETTERS ++ L DIGITS := by decide +kernel
  rw [e]
  unfold isAl
  rw [← let_mem, ← dig_mem, Bool.eq_iff_iff]
  simp only [decide_eq_true_eq, List.mem_append, Bool.or_eq_true]
/-- the signs of one character -/
def isSg (c : Nat) : Bool := decide (c ∈ [40, 41, 91, 93, 123, 125, 44, 59, 58, 46, 61, 60, 62, 43, 45, 42, 47])
theorem sg_mem (c : Nat) : decide (c ∈ L SINGLE) = isSg c := by
  have e : L SINGLE = [40, 41, 91, 93, 123, 125, 44, 59, 58, 46, 61, 60, 62, 43, 45, 42, 47] := by decide +kernel
  rw [e]
  rfl
/-- how far a run goes -/
def stop (p : Nat → Bool) (l : List Nat) (i : Nat) : Nat := i + ((l.drop i).takeWhile p).length
theorem stop_step {p : Nat → Bool} {l : List Nat} {i c : Nat} (h : l[i]? = some c) (hp : p c = true) : stop p l i = stop p l (i + 1) := by
  obtain ⟨hi, e⟩ := List.getElem?_eq_some_iff.mp h
  unfold stop
  rw [List.drop_eq_getElem_cons hi, e, List.takeWhile_cons, if_pos hp, List.length_cons]
  omega
theorem stop_out {p : Nat → Bool} {l : List Nat} {i c : Nat} (h : l[i]? = some c) (hp : p c = false) : stop p l i = i := by
  obtain ⟨hi, e⟩ := List.getElem?_eq_some_iff.mp h
  unfold stop
  rw [List.drop_eq_getElem_cons hi, e, List.takeWhile_cons, if_neg (by rw [hp]; decide), List.length_nil]
  rfl
theorem stop_end {p : Nat → Bool} {l : List Nat} {i : Nat} (h : l.length ≤ i) : stop p l i = i := by
  unfold stop
  rw [List.drop_eq_nil_of_le h]
  rfl
theorem stop_le {p : Nat → Bool} {l : List Nat} {i : Nat} (h : i ≤ l.length) : stop p l i ≤ l.length := by
  unfold stop
  have : ((l.drop i).takeWhile p).length ≤ (l.drop i).length := (List.takeWhile_sublist p).length_le
  rw [List.length_drop] at this
  omega
theorem stop_ge {p : Nat → Bool} {l : List Nat} {i : Nat} : i ≤ stop p l i := Nat.le_add_right _ _
/-- a run that is followed by something else -/
theorem stop_run {p : Nat → Bool} (a r b : List Nat) (hr : ∀ c ∈ r, p c = true) (hb : ∀ c, b.head? = some c → p c = false) : stop p (a ++ r ++ b) a.length = a.length + r.length := by
  unfold stop
  rw [List.append_assoc, List.drop_left]
  congr 1
  have : (r ++ b).takeWhile p = r := by
    rw [List.takeWhile_append_of_pos hr]
    cases b with
    | nil => simp
    | cons c t => rw [List.takeWhile_cons, if_neg (by rw [hb c rfl]; decide), List.append_nil]
  rw [this]
/-- a token: its kind, its offset, its value -/
abbrev Tok := Str × Nat × V
abbrev WORDS : List Str := ["let", "fun", "class", "extends", "if", "else", "while", "for", "in", "break", "continue", "return", "throw", "try", "catch", "and", "or", "not", "is", "mod", "true", "false", "null", "this", "super"]
def cut (l : List Nat) (i j : Nat) : List Nat := (l.drop i).take (j - i)
def wordTok (l : List Nat) (i j : Nat) : Tok := if S (cut l i j) ∈ WORDS then ("word", i, .str (S (cut l i j))) else ("name", i, .str (S (cut l i j)))
def value (ds : List Nat) : Nat := NumText.digitsVal ds
def numTok (l : List Nat) (i j : Nat) : Tok :=
  if 300 < ((cut l i j).dropWhile (· == 48)).length then ("fault", i, .str "the number is too great") else ("number", i, .int ((value (48 :: (cut l i j).dropWhile (· == 48)) : Nat) : Int))
def esc (d : Nat) : Option Nat := if d = 110 then some 10 else if d = 34 then some 34 else if d = 92 then some 92 else none
/-- the rest of a text behind its first quotation mark -/
def quo (start : Nat) : List Nat → Nat → List Nat → Tok × Nat
  | [], i, _ => (("fault", start, .str "the text does not end"), i)
  | c :: r, i, acc =>
    if c = 10 then (("fault", start, .str "the text does not end"), i)
    else if c = 34 then (("text", start, .str (S acc)), i + 1)
    else if isCh c = false then (("fault", i, .str "this character is not allowed"), i)
    else if c = 92 then
      match r with
      | [] => (("fault", start, .str "the text does not end"), i)
      | d :: r' => match esc d with
        | none => (("fault", i, .str "the escape is not known"), i)
        | some e => quo start r' (i + 2) (acc ++ [e])
    else quo start r (i + 1) (acc ++ [c])
def isDbl (c d : Nat) : Bool := decide (d = 61) && decide (c ∈ [61, 33, 60, 62])
def dblAt (l : List Nat) (i c : Nat) : Bool := match l[i + 1]? with
  | some d => isDbl c d
  | none => false
def tokenAt (l : List Nat) (i : Nat) : Tok × Nat :=
  match l[i]? with
  | none => (("end", i, .non), i)
  | some c =>
    if isLet c then (wordTok l i (stop isAl l i), stop isAl l i)
    else if isDig c then (numTok l i (stop isDig l i), stop isDig l i)
    else if c = 34 then quo i (l.drop (i + 1)) (i + 1) []
    else if dblAt l i c = true then (("sign", i, .str (S (cut l i (i + 2)))), i + 2)
    else if isSg c then (("sign", i, .str (S [c])), i + 1)
    else (("fault", i, .str "this character is not allowed"), i + 1)
def isNl (c : Nat) : Bool := decide (c ≠ 10)
/-- the tokens from a place on -/
inductive Tks (l : List Nat) : Nat → List Tok → Prop where
  | fin : Tks l l.length [("end", l.length, .non)]
  | blank {i c : Nat} {ts : List Tok} : l[i]? = some c → (c = 32 ∨ c = 10) → Tks l (i + 1) ts → Tks l i ts
  | rem {i : Nat} {ts : List Tok} : l[i]? = some 47 → l[i + 1]? = some 47 → Tks l (stop isNl l i) ts → Tks l i ts
  | tok {i c : Nat} {ts : List Tok} : l[i]? = some c → ¬ (c = 32 ∨ c = 10) → ¬ (c = 47 ∧ l[i + 1]? = some 47) → (tokenAt l i).1.1 ≠ "fault" → Tks l (tokenAt l i).2 ts → Tks l i ((tokenAt l i).1 :: ts)
  | fault {i c : Nat} : l[i]? = some c → ¬ (c = 32 ∨ c = 10) → ¬ (c = 47 ∧ l[i + 1]? = some 47) → (tokenAt l i).1.1 = "fault" → Tks l i [(tokenAt l i).1]
theorem Tks.det {l : List Nat} {i : Nat} {ts us : List Tok} (h : Tks l i ts) : Tks l i us → ts = us := by
  induction h generalizing us with
  | fin =>
    intro q
    cases q with
    | fin => rfl
    | blank e _ _ => simp at e
    | rem e _ _ => simp at e
    | tok e _ _ _ _ => simp at e
    | fault e _ _ _ => simp at e
  | blank e b _ ih =>
    intro q
    cases q with
    | fin => simp at e
    | blank e' b' q' => exact ih q'
    | rem e' _ _ => rw [e] at e'; cases e'; omega
    | tok e' n _ _ _ => rw [e] at e'; cases e'; exact absurd b n
    | fault e' n _ _ => rw [e] at e'; cases e'; exact absurd b n
  | rem e e2 _ ih =>
    intro q
    cases q with
    | fin => simp at e
    | blank e' b' q' => rw [e] at e'; cases e'; omega
    | rem e' _ q' => exact ih q'
    | tok e' _ n _ _ => rw [e] at e'; cases e'; exact absurd ⟨rfl, e2⟩ n
    | fault e' _ n _ => rw [e] at e'; cases e'; exact absurd ⟨rfl, e2⟩ n
  | tok e n n2 nf _ ih =>
    intro q
    cases q with
    | fin => simp at e
    | blank e' b' q' => rw [e] at e'; cases e'; exact absurd b' n
    | rem e' e2 q' => rw [e] at e'; cases e'; exact absurd ⟨rfl, e2⟩ n2
    | tok e' _ _ _ q' => rw [ih q']
    | fault e' _ _ f => exact absurd f nf
  | fault e n n2 f =>
    intro q
    cases q with
    | fin => simp at e
    | blank e' b' q' => rw [e] at e'; cases e'; exact absurd b' n
    | rem e' e2 q' => rw [e] at e'; cases e'; exact absurd ⟨rfl, e2⟩ n2
    | tok e' _ _ nf _ => exact absurd f nf
    | fault e' _ _ _ => rfl
theorem quo_ge (st : Nat) : ∀ (n : Nat) (r : List Nat) (i : Nat) (acc : List Nat), r.length ≤ n → i ≤ (quo st r i acc).2 ∧ (quo st r i acc).2 ≤ i + r.length
  | _, [], i, acc, _ => ⟨Nat.le_refl _, Nat.le_refl _⟩
  | 0, c :: r, i, acc, h => by simp at h
  | n + 1, c :: r, i, acc, h => by
    rw [List.length_cons] at h ⊢
    unfold quo
    split
    · exact ⟨Nat.le_refl _, Nat.le_add_right _ _⟩
    split
    · exact ⟨Nat.le_succ _, by show i + 1 ≤ _; omega⟩
    split
    · exact ⟨Nat.le_refl _, Nat.le_add_right _ _⟩
    split
    · cases r with
      | nil => exact ⟨Nat.le_refl _, Nat.le_add_right _ _⟩
      | cons d r' =>
        dsimp only
        cases he : esc d with
        | none => exact ⟨Nat.le_refl _, Nat.le_add_right _ _⟩
        | some e =>
          have := quo_ge st n r' (i + 2) (acc ++ [e]) (by rw [List.length_cons] at h; omega)
          rw [List.length_cons]
          dsimp only
          omega
    · have := quo_ge st n r (i + 1) (acc ++ [c]) (by omega)
      omega
theorem tokenAt_gt {l : List Nat} {i : Nat} (h : i < l.length) : i < (tokenAt l i).2 ∨ (tokenAt l i).1.1 = Str.ofString "fault" := by
  have hc : l[i]? = some l[i] := List.getElem?_eq_getElem h
  unfold tokenAt
  rw [hc]
  dsimp only
  split
  · rename_i hl
    have hp : isAl l[i] = true := by unfold isAl; rw [hl]; rfl
    left
    show i < stop isAl l i
    rw [stop_step hc hp]
    exact stop_ge
  split
  · rename_i hd
    left
    show i < stop isDig l i
    rw [stop_step hc hd]
    exact stop_ge
  split
  · left
    exact (quo_ge i _ (l.drop (i + 1)) (i + 1) [] (Nat.le_refl _)).1
  split
  · left; show i < i + 2; omega
  split
  · left; show i < i + 1; omega
  · right; rfl
theorem tokenAt_le {l : List Nat} {i : Nat} (h : i < l.length) : (tokenAt l i).2 ≤ l.length := by
  have hc : l[i]? = some l[i] := List.getElem?_eq_getElem h
  unfold tokenAt
  rw [hc]
  dsimp only
  split
  · exact stop_le (by omega)
  split
  · exact stop_le (by omega)
  split
  · have := (quo_ge i _ (l.drop (i + 1)) (i + 1) [] (Nat.le_refl _)).2
    rw [List.length_drop] at this
    omega
  split
  · rename_i hd
    show i + 2 ≤ l.length
    unfold dblAt at hd
    split at hd
    · rename_i d e
      have := (List.getElem?_eq_some_iff.mp e).1
      omega
    · cases hd
  split
  · show i + 1 ≤ l.length; omega
  · show i + 1 ≤ l.length; omega
end Tk

set_option Elab.async false
set_option linter.all false
set_option maxRecDepth 100000
/-! pieces and gaps, and the tokens of their text -/
namespace Tk
open PySem Fx L2
/-- a text as it is spelled between quotation marks -/
def spell1 (c : Nat) : List Nat := if c = 10 then [92, 110] else if c = 34 then [92, 34] else if c = 92 then [92, 92] else [c]
def spell (t : List Nat) : List Nat := t.flatMap spell1
inductive Piece : List Nat → Str → V → Prop where
  | word {c : Nat} {p : List Nat} : isLet c = true → (∀ d ∈ p, isAl d = true) → S (c :: p) ∈ WORDS → Piece (c :: p) "word" (.str (S (c :: p)))
  | name {c : Nat} {p : List Nat} : isLet c = true → (∀ d ∈ p, isAl d = true) → ¬ S (c :: p) ∈ WORDS → Piece (c :: p) "name" (.str (S (c :: p)))
  | number {z n : Nat} : (TL.numL n).length ≤ 300 → Piece (List.replicate z 48 ++ TL.numL n) "number" (.int n)
  | text {t : List Nat} : (∀ c ∈ t, isCh c = true) → Piece (34 :: (spell t ++ [34])) "text" (.str (S t))
  | sign1 {c : Nat} : isSg c = true → Piece [c] "sign" (.str (S [c]))
  | sign2 {c d : Nat} : isDbl c d = true → Piece [c, d] "sign" (.str (S [c, d]))
/-- what may stand behind a piece -/
structure Follow (p rest : List Nat) : Prop where
  al : ∀ c d, p.head? = some c → rest.head? = some d → isLet c = true → isAl d = false
  dig : ∀ c d, p.head? = some c → rest.head? = some d → isDig c = true → isDig d = false
  sg : ∀ c d, p = [c] → rest.head? = some d → isDbl c d = false ∧ ¬ (c = 47 ∧ d = 47)
theorem sg_cases {c : Nat} (h : isSg c = true) : isLet c = false ∧ isDig c = false ∧ c ≠ 34 ∧ c ≠ 32 ∧ c ≠ 10 := by
  have all : ∀ x ∈ [40, 41, 91, 93, 123, 125, 44, 59, 58, 46, 61, 60, 62, 43, 45, 42, 47], isLet x = false ∧ isDig x = false ∧ x ≠ 34 ∧ x ≠ 32 ∧ x ≠ 10 := by decide
  exact all c (of_decide_eq_true h)
theorem dbl_cases {c d : Nat} (h : isDbl c d = true) : isLet c = false ∧ isDig c = false ∧ c ≠ 34 ∧ c ≠ 32 ∧ c ≠ 10 ∧ c ≠ 47 := by
  have all : ∀ x ∈ [61, 33, 60, 62], isLet x = false ∧ isDig x = false ∧ x ≠ 34 ∧ x ≠ 32 ∧ x ≠ 10 ∧ x ≠ 47 := by decide
  unfold isDbl at h
  exact all c (of_decide_eq_true (Bool.and_eq_true_iff.mp h).2)
theorem let_cases {c : Nat} (h : isLet c = true) : isDig c = false ∧ c ≠ 34 ∧ c ≠ 32 ∧ c ≠ 10 ∧ c ≠ 47 := by
  unfold isLet at h
  unfold isDig
  simp only [Bool.or_eq_true, Bool.and_eq_true, decide_eq_true_eq] at h
  simp only [Bool.and_eq_false_iff, decide_eq_false_iff_not]
  omega
theorem dig_cases {c : Nat} (h : isDig c = true) : isLet c = false ∧ c ≠ 34 ∧ c ≠ 32 ∧ c ≠ 10 ∧ c ≠ 47 := by
  unfold isDig at h
  unfold isLet
  simp only [Bool.and_eq_true, decide_eq_true_eq] at h
  simp only [Bool.or_eq_false_iff, Bool.and_eq_false_iff, decide_eq_false_iff_not]
  omega
theorem at_pre (pre : List Nat) (c : Nat) (r : List Nat) : (pre ++ c :: r)[pre.length]? = some c := by
  rw [List.getElem?_append_right (Nat.le_refl _), Nat.sub_self]; rfl
theorem at_pre1 (pre : List Nat) (c : Nat) (r : List Nat) : (pre ++ c :: r)[pre.length + 1]? = r.head? := by
  rw [List.getElem?_append_right (by omega)]
  have : pre.length + 1 - pre.length = 1 := by omega
  rw [this]
  cases r <;> rfl
theorem cut_mid' (pre p rest : List Nat) : cut (pre ++ p ++ rest) pre.length (pre.length + p.length) = p := by
  unfold cut
  rw [List.append_assoc, List.drop_left, Nat.add_sub_cancel_left, List.take_left]
theorem val_zero (r : List Nat) : value (48 :: r) = value r := rfl
theorem val_drop : ∀ ds : List Nat, value (ds.dropWhile (· == 48)) = value ds
  | [] => rfl
  | c :: r => by
    rw [List.dropWhile_cons]
    by_cases h : (c == 48) = true
    · rw [if_pos h, val_drop r]
      have : c = 48 := by simpa using h
      subst this
      exact (val_zero r).symm
    · rw [if_neg h]
theorem val_rep (z : Nat) (ds : List Nat) : value (List.replicate z 48 ++ ds) = value ds := by
  induction z with
  | zero => rfl
  | succ z ih => rw [List.replicate_succ, List.cons_append, val_zero, ih]
theorem drop_rep (z : Nat) (ds : List Nat) : (List.replicate z 48 ++ ds).dropWhile (· == 48) = ds.dropWhile (· == 48) := by
  induction z with
  | zero => rfl
  | succ z ih => rw [List.replicate_succ, List.cons_append, List.dropWhile_cons, if_pos (by rfl), ih]
theorem esc_n : esc 110 = some 10 := rfl
theorem quo_spell (st : Nat) : ∀ (t rest : List Nat) (i : Nat) (acc : List Nat), (∀ c ∈ t, isCh c = true) → quo st (spell t ++ 34 :: rest) i acc = (((Str.ofString "text", st, V.str (S (acc ++ t))) : Tok), i + (spell t).length + 1)
  | [], rest, i, acc, _ => by
    show quo st (34 :: rest) i acc = _
    unfold quo
    rw [if_neg (by decide), if_pos rfl, List.append_nil]
    rfl
  | c :: t, rest, i, acc, h => by
    have ih := fun i acc => quo_spell st t rest i acc fun d hd => h d (List.mem_cons_of_mem _ hd)
    have hc := h c List.mem_cons_self
    have e : spell (c :: t) = spell1 c ++ spell t := List.flatMap_cons
    rw [e, List.append_assoc, List.length_append]
    unfold spell1
    by_cases h1 : c = 10
    · subst h1
      rw [if_pos rfl]
      show quo st (92 :: 110 :: (spell t ++ 34 :: rest)) i acc = _
      unfold quo
      rw [if_neg (by decide), if_neg (by decide), if_neg (by decide), if_pos rfl]
      show quo st (spell t ++ 34 :: rest) (i + 2) (acc ++ [10]) = _
      rw [ih, List.append_assoc]
      show (_, i + 2 + (spell t).length + 1) = (_, i + (2 + (spell t).length) + 1)
      rw [Nat.add_assoc i 2]; rfl
    rw [if_neg h1]
    by_cases h2 : c = 34
    · subst h2
      rw [if_pos rfl]
      show quo st (92 :: 34 :: (spell t ++ 34 :: rest)) i acc = _
      unfold quo
      rw [if_neg (by decide), if_neg (by decide), if_neg (by decide), if_pos rfl]
      show quo st (spell t ++ 34 :: rest) (i + 2) (acc ++ [34]) = _
      rw [ih, List.append_assoc]
      show (_, i + 2 + (spell t).length + 1) = (_, i + (2 + (spell t).length) + 1)
      rw [Nat.add_assoc i 2]; rfl
    rw [if_neg h2]
    by_cases h3 : c = 92
    · subst h3
      rw [if_pos rfl]
      show quo st (92 :: 92 :: (spell t ++ 34 :: rest)) i acc = _
      unfold quo
      rw [if_neg (by decide), if_neg (by decide), if_neg (by decide), if_pos rfl]
      show quo st (spell t ++ 34 :: rest) (i + 2) (acc ++ [92]) = _
      rw [ih, List.append_assoc]
      show (_, i + 2 + (spell t).length + 1) = (_, i + (2 + (spell t).length) + 1)
      rw [Nat.add_assoc i 2]; rfl
    rw [if_neg h3]
    show quo st (c :: (spell t ++ 34 :: rest)) i acc = _
    unfold quo
    rw [if_neg h1, if_neg h2, if_neg (by rw [hc]; decide), if_neg h3, ih, List.append_assoc]
    show (_, i + 1 + (spell t).length + 1) = (_, i + (1 + (spell t).length) + 1)
    rw [Nat.add_assoc i 1]; rfl
theorem numL_head (n : Nat) : ∃ c r, TL.numL n = c :: r ∧ isDig c = true := by
  cases e : TL.numL n with
  | nil => exact absurd e (TL.numL_ne n)
  | cons c r =>
    have := TL.numL_digits n c (by rw [e]; exact List.mem_cons_self)
    exact ⟨c, r, rfl, by unfold isDig; simp [this.1, this.2]⟩
theorem numL_all (z n : Nat) : ∀ c ∈ List.replicate z 48 ++ TL.numL n, isDig c = true := by
  intro c hc
  rcases List.mem_append.mp hc with h | h
  · rw [List.eq_of_mem_replicate h]; decide
  · have := TL.numL_digits n c h
    unfold isDig
    simp [this.1, this.2]
theorem Piece.first {p : List Nat} {k : Str} {v : V} (h : Piece p k v) : ∃ c r, p = c :: r ∧ c ≠ 32 ∧ c ≠ 10 := by
  cases h with
  | word hc _ _ => exact ⟨_, _, rfl, (let_cases hc).2.2.1, (let_cases hc).2.2.2.1⟩
  | name hc _ _ => exact ⟨_, _, rfl, (let_cases hc).2.2.1, (let_cases hc).2.2.2.1⟩
  | @number z n _ =>
    have all := numL_all z n
    cases e : List.replicate z 48 ++ TL.numL n with
    | nil =>
      have := List.append_eq_nil_iff.mp e
      exact absurd this.2 (TL.numL_ne n)
    | cons c r =>
      have hc := all c (by rw [e]; exact List.mem_cons_self)
      exact ⟨c, r, rfl, (dig_cases hc).2.2.1, (dig_cases hc).2.2.2.1⟩
  | text _ => exact ⟨_, _, rfl, by decide, by decide⟩
  | sign1 hs => exact ⟨_, _, rfl, (sg_cases hs).2.2.2.1, (sg_cases hs).2.2.2.2⟩
  | sign2 hs => exact ⟨_, _, rfl, (dbl_cases hs).2.2.2.1, (dbl_cases hs).2.2.2.2.1⟩
theorem tokenAt_piece {p : List Nat} {k : Str} {v : V} (h : Piece p k v) (pre rest : List Nat) (hf : Follow p rest) :
    tokenAt (pre ++ p ++ rest) pre.length = ((k, pre.length, v), pre.length + p.length) := by
  have hn : ∀ {q : Nat → Bool}, (∀ c ∈ p, q c = true) → (∀ d, rest.head? = some d → q d = false) → stop q (pre ++ p ++ rest) pre.length = pre.length + p.length := fun h1 h2 => stop_run pre p rest h1 h2
  have hcut := cut_mid' pre p rest
  cases h with
  | @word c p hc hp hw =>
    have e : (pre ++ (c :: p) ++ rest)[pre.length]? = some c := by rw [List.append_assoc]; exact at_pre _ _ _
    unfold tokenAt
    rw [e]
    dsimp only
    rw [if_pos hc, hn (q := isAl) (by
      intro d hd
      rcases List.mem_cons.mp hd with rfl | hd
      · unfold isAl; rw [hc]; rfl
      · exact hp d hd) fun d hd => hf.al c d rfl hd hc]
    unfold wordTok
    rw [hcut, if_pos hw]
  | @name c p hc hp hw =>
    have e : (pre ++ (c :: p) ++ rest)[pre.length]? = some c := by rw [List.append_assoc]; exact at_pre _ _ _
    unfold tokenAt
    rw [e]
    dsimp only
    rw [if_pos hc, hn (q := isAl) (by
      intro d hd
      rcases List.mem_cons.mp hd with rfl | hd
      · unfold isAl; rw [hc]; rfl
      · exact hp d hd) fun d hd => hf.al c d rfl hd hc]
    unfold wordTok
    rw [hcut, if_neg hw]
  | @number z n hl =>
    have all := numL_all z n
    obtain ⟨c, r, ec, hne⟩ : ∃ c r, List.replicate z 48 ++ TL.numL n = c :: r ∧ isDig c = true := by
      cases e : List.replicate z 48 ++ TL.numL n with
      | nil => exact absurd (List.append_eq_nil_iff.mp e).2 (TL.numL_ne n)
      | cons c r => exact ⟨c, r, rfl, all c (by rw [e]; exact List.mem_cons_self)⟩
    have e : (pre ++ (List.replicate z 48 ++ TL.numL n) ++ rest)[pre.length]? = some c := by rw [ec, List.append_assoc]; exact at_pre _ _ _
    unfold tokenAt
    rw [e]
    dsimp only
    rw [if_neg (by rw [(dig_cases hne).1]; decide), if_pos hne, hn (q := isDig) all fun d hd => hf.dig c d (by rw [ec]; rfl) hd hne]
    unfold numTok
    rw [hcut, drop_rep]
    have hlen : ((TL.numL n).dropWhile (· == 48)).length ≤ (TL.numL n).length := (List.dropWhile_sublist _).length_le
    rw [if_neg (by omega), val_zero, val_drop]
    have : value (TL.numL n) = n := TL.numL_val n
    rw [this]
  | @text t ht =>
    have e : (pre ++ (34 :: (spell t ++ [34])) ++ rest)[pre.length]? = some 34 := by rw [List.append_assoc]; exact at_pre _ _ _
    unfold tokenAt
    rw [e]
    dsimp only
    rw [if_neg (by decide), if_neg (by decide), if_pos rfl]
    have ed : (pre ++ (34 :: (spell t ++ [34])) ++ rest).drop (pre.length + 1) = spell t ++ 34 :: rest := by
      rw [List.append_assoc, ← List.drop_drop, List.drop_left]
      simp
    rw [ed, quo_spell _ _ _ _ _ ht, List.nil_append]
    simp only [List.length_cons, List.length_append, List.length_nil]
    congr 1
    omega
  | @sign1 c hs =>
    have e : (pre ++ [c] ++ rest)[pre.length]? = some c := by rw [List.append_assoc]; exact at_pre _ _ _
    obtain ⟨q1, q2, q3, _⟩ := sg_cases hs
    unfold tokenAt
    rw [e]
    dsimp only
    have hd : dblAt (pre ++ [c] ++ rest) pre.length c = false := by
      unfold dblAt
      have e1 : (pre ++ [c] ++ rest)[pre.length + 1]? = rest.head? := by rw [List.append_assoc]; exact at_pre1 _ _ _
      rw [e1]
      cases hr : rest.head? with
      | none => rfl
      | some d => exact (hf.sg c d rfl hr).1
    rw [if_neg (by rw [q1]; decide), if_neg (by rw [q2]; decide), if_neg q3, hd, if_neg (by decide), if_pos hs]
    rfl
  | @sign2 c d hs =>
    have e : (pre ++ [c, d] ++ rest)[pre.length]? = some c := by rw [List.append_assoc]; exact at_pre _ _ _
    obtain ⟨q1, q2, q3, _⟩ := dbl_cases hs
    unfold tokenAt
    rw [e]
    dsimp only
    have hd : dblAt (pre ++ [c, d] ++ rest) pre.length c = true := by
      unfold dblAt
      have e1 : (pre ++ [c, d] ++ rest)[pre.length + 1]? = some d := by rw [List.append_assoc]; exact at_pre1 _ _ _
      rw [e1]
      exact hs
    rw [if_neg (by rw [q1]; decide), if_neg (by rw [q2]; decide), if_neg q3, hd, if_pos rfl]
    have := hcut
    rw [show pre.length + [c, d].length = pre.length + 2 from rfl] at this
    rw [this]
    rfl
theorem Piece.kind {p : List Nat} {k : Str} {v : V} (h : Piece p k v) : k ≠ Str.ofString "fault" := by
  cases h <;> decide +kernel
theorem Piece.slash' {p : List Nat} {k : Str} {v : V} (h : Piece p k v) : ∀ r, p = 47 :: r → r = [] := by
  intro r e
  cases h with
  | word hc _ _ => cases e; exact absurd rfl (let_cases hc).2.2.2.2
  | name hc _ _ => cases e; exact absurd rfl (let_cases hc).2.2.2.2
  | @number z n _ =>
    have := numL_all z n 47 (by rw [e]; exact List.mem_cons_self)
    exact absurd rfl (dig_cases this).2.2.2.2
  | text _ => cases e
  | sign1 _ => cases e; rfl
  | sign2 hs => cases e; exact absurd rfl (dbl_cases hs).2.2.2.2.2
theorem Piece.slash {r : List Nat} {k : Str} {v : V} (h : Piece (47 :: r) k v) : r = [] := h.slash' r rfl
theorem Tks.piece {p : List Nat} {k : Str} {v : V} {pre rest : List Nat} {ts : List Tok} (h : Piece p k v) (hf : Follow p rest) (ht : Tks (pre ++ p ++ rest) (pre ++ p).length ts) :
    Tks (pre ++ p ++ rest) pre.length ((k, pre.length, v) :: ts) := by
  have et := tokenAt_piece h pre rest hf
  obtain ⟨c, r, rfl, n1, n2⟩ := h.first
  have e : (pre ++ (c :: r) ++ rest)[pre.length]? = some c := by rw [List.append_assoc]; exact at_pre _ _ _
  have := Tks.tok (l := pre ++ (c :: r) ++ rest) (i := pre.length) (ts := ts) e (by omega) (by
    rintro ⟨rfl, h47⟩
    rw [List.append_assoc, List.cons_append, at_pre1] at h47
    have er := h.slash
    subst er
    rw [List.nil_append] at h47
    exact (hf.sg 47 47 rfl h47).2 ⟨rfl, rfl⟩) (by rw [et]; exact h.kind) (by rw [et, ← List.length_append]; exact ht)
  rw [et] at this
  exact this
/-- blanks, newlines, comments up to their newline -/
inductive Gap : List Nat → Prop where
  | nil : Gap []
  | blank {c : Nat} {g : List Nat} : (c = 32 ∨ c = 10) → Gap g → Gap (c :: g)
  | rem {r g : List Nat} : (∀ c ∈ r, c ≠ 10) → Gap g → Gap (47 :: 47 :: (r ++ 10 :: g))
theorem Tks.gap {g : List Nat} (h : Gap g) : ∀ {pre rest : List Nat} {ts : List Tok}, Tks (pre ++ g ++ rest) (pre ++ g).length ts → Tks (pre ++ g ++ rest) pre.length ts := by
  induction h with
  | nil => intro pre rest ts ht; simpa using ht
  | @blank c g hc _ ih =>
    intro pre rest ts ht
    have e : (pre ++ (c :: g) ++ rest)[pre.length]? = some c := by rw [List.append_assoc]; exact at_pre _ _ _
    refine .blank e hc ?_
    have e2 : pre ++ (c :: g) ++ rest = (pre ++ [c]) ++ g ++ rest := by simp
    have e3 : pre.length + 1 = (pre ++ [c]).length := by simp
    rw [e2, e3]
    refine ih ?_
    rw [← e2]
    have e4 : ((pre ++ [c]) ++ g).length = (pre ++ (c :: g)).length := by simp
    rw [e4]; exact ht
  | @rem r g hr _ ih =>
    intro pre rest ts ht
    have e : (pre ++ (47 :: 47 :: (r ++ 10 :: g)) ++ rest)[pre.length]? = some 47 := by rw [List.append_assoc]; exact at_pre _ _ _
    have e1 : (pre ++ (47 :: 47 :: (r ++ 10 :: g)) ++ rest)[pre.length + 1]? = some 47 := by rw [List.append_assoc, List.cons_append, at_pre1]; rfl
    refine .rem e e1 ?_
    have e2 : pre ++ (47 :: 47 :: (r ++ 10 :: g)) ++ rest = pre ++ (47 :: 47 :: r) ++ (10 :: (g ++ rest)) := by simp
    have e3 : stop isNl (pre ++ (47 :: 47 :: (r ++ 10 :: g)) ++ rest) pre.length = pre.length + (47 :: 47 :: r).length := by
      rw [e2]
      refine stop_run _ _ _ ?_ ?_
      · intro c hc
        rcases List.mem_cons.mp hc with rfl | hc
        · rfl
        rcases List.mem_cons.mp hc with rfl | hc
        · rfl
        · simp [isNl, hr c hc]
      · intro c hc
        cases hc
        rfl
    rw [e3]
    have e4 : (pre ++ (47 :: 47 :: (r ++ 10 :: g)) ++ rest)[pre.length + (47 :: 47 :: r).length]? = some 10 := by
      rw [e2, ← List.length_append]
      exact at_pre _ _ _
    refine .blank e4 (.inr rfl) ?_
    have e5 : pre ++ (47 :: 47 :: (r ++ 10 :: g)) ++ rest = (pre ++ (47 :: 47 :: r) ++ [10]) ++ g ++ rest := by simp
    have e6 : pre.length + (47 :: 47 :: r).length + 1 = (pre ++ (47 :: 47 :: r) ++ [10]).length := by simp; omega
    rw [e5, e6]
    refine ih ?_
    rw [← e5]
    have e7 : ((pre ++ (47 :: 47 :: r) ++ [10]) ++ g).length = (pre ++ (47 :: 47 :: (r ++ 10 :: g))).length := by simp
    rw [e7]; exact ht
/-- a gap and a piece; a row of them, the last one first -/
structure Seg where
  g : List Nat
  p : List Nat
  k : Str
  v : V
def cat : List Seg → List Nat
  | [] => []
  | s :: r => cat r ++ s.g ++ s.p
def dues : List Seg → List Tok
  | [] => []
  | s :: r => dues r ++ [(s.k, (cat r ++ s.g).length, s.v)]
def Linked : List Seg → Prop
  | [] => True
  | s :: r => (Gap s.g ∧ Piece s.p s.k s.v) ∧ (∀ t, r.head? = some t → Follow t.p (s.g ++ s.p)) ∧ Linked r
theorem Follow.more {p q rest : List Nat} (h : Follow p q) (hq : q ≠ []) : Follow p (q ++ rest) := by
  have e : (q ++ rest).head? = q.head? := by
    cases q with
    | nil => exact absurd rfl hq
    | cons c r => rfl
  exact ⟨fun c d h1 h2 => h.al c d h1 (e ▸ h2), fun c d h1 h2 => h.dig c d h1 (e ▸ h2), fun c d h1 h2 => h.sg c d h1 (e ▸ h2)⟩
theorem Tks.row : ∀ (rs : List Seg) (rest : List Nat) (ts : List Tok), Linked rs → (∀ t, rs.head? = some t → Follow t.p rest) → Tks (cat rs ++ rest) (cat rs).length ts → Tks (cat rs ++ rest) 0 (dues rs ++ ts)
  | [], rest, ts, _, _, ht => ht
  | s :: r, rest, ts, hl, hf, ht => by
    obtain ⟨⟨hg, hp⟩, hl1, hl2⟩ := hl
    have t1 := Tks.piece (pre := cat r ++ s.g) (rest := rest) hp (hf s rfl) ht
    have e1 : cat r ++ s.g ++ s.p ++ rest = cat r ++ s.g ++ (s.p ++ rest) := by simp
    have t2 : Tks (cat r ++ s.g ++ (s.p ++ rest)) (cat r).length ((s.k, (cat r ++ s.g).length, s.v) :: ts) := Tks.gap hg (by rw [← e1]; exact t1)
    have e2 : cat r ++ s.g ++ (s.p ++ rest) = cat r ++ (s.g ++ s.p ++ rest) := by simp
    rw [e2] at t2
    have t3 := Tks.row r (s.g ++ s.p ++ rest) _ hl2 (fun t h => (hl1 t h).more (by
      obtain ⟨c, q, e, _⟩ := hp.first
      rw [e]; simp)) t2
    show Tks (cat r ++ s.g ++ s.p ++ rest) 0 (dues r ++ [(s.k, (cat r ++ s.g).length, s.v)] ++ ts)
    rw [e1, e2, List.append_assoc (dues r)]
    exact t3
/-- the whole text: the row, a last gap, the end -/
theorem Tks.whole {rs : List Seg} {g : List Nat} (hl : Linked rs) (hg : Gap g) (hf : ∀ t, rs.head? = some t → Follow t.p g) : Tks (cat rs ++ g) 0 (dues rs ++ [((Str.ofString "end", (cat rs ++ g).length, V.non) : Tok)]) := by
  refine Tks.row rs g _ hl hf ?_
  have := Tks.gap hg (pre := cat rs) (rest := []) (ts := [((Str.ofString "end", (cat rs ++ g).length, V.non) : Tok)])
  rw [List.append_nil] at this
  exact this .fin
/-- how a gap is chosen -/
structure GapSpec (b a : Str) (g : List Nat) : Prop where
  gap : Gap g
  len : g.length ≤ 20
  sep : (∃ d, g.head? = some d ∧ (d = 32 ∨ d = 10 ∨ (d = 47 ∧ b ≠ S [47]))) ∨ (g = [] ∧ ((∃ c ∈ [40, 41, 91, 93, 44, 59, 123, 125, 58], b = S [c]) ∨ ∃ c ∈ [40, 41, 91, 93, 44, 59, 123, 125], a = S [c]))
theorem follow_of {p : List Nat} {d : Nat} {r : List Nat} (h1 : isAl d = false) (h2 : d ≠ 61) (h3 : ¬ (p = [47] ∧ d = 47)) : Follow p (d :: r) := by
  have hd : isDig d = false := by unfold isAl at h1; exact (Bool.or_eq_false_iff.mp h1).2
  refine ⟨fun c e _ he _ => by cases he; exact h1, fun c e _ he _ => by cases he; exact hd, fun c e hc he => ?_⟩
  cases he
  refine ⟨by unfold isDbl; simp [h2], fun h => h3 ⟨by rw [hc, h.1], h.2⟩⟩
theorem follow_one {c : Nat} (h : c ∈ [40, 41, 91, 93, 44, 59, 123, 125, 58]) (rest : List Nat) : Follow [c] rest := by
  have all : ∀ x ∈ [40, 41, 91, 93, 44, 59, 123, 125, 58], isLet x = false ∧ isDig x = false ∧ x ≠ 47 ∧ x ≠ 61 ∧ x ≠ 33 ∧ x ≠ 60 ∧ x ≠ 62 := by decide
  obtain ⟨q1, q2, q3, q4, q5, q6, q7⟩ := all c h
  refine ⟨fun e d he _ hl => ?_, fun e d he _ hl => ?_, fun e d he _ => ?_⟩
  · cases he; rw [q1] at hl; cases hl
  · cases he; rw [q2] at hl; cases hl
  · cases he
    exact ⟨by unfold isDbl; simp [q4, q5, q6, q7], fun h => q3 h.1⟩
theorem GapSpec.follow {pb pa g : List Nat} {k : Str} {v : V} (h : GapSpec (S pb) (S pa) g) (hp : Piece pa k v) : Follow pb (g ++ pa) := by
  rcases h.sep with ⟨d, hd, hc⟩ | ⟨rfl, hc⟩
  · cases g with
    | nil => cases hd
    | cons x g' =>
      cases hd
      rw [List.cons_append]
      rcases hc with rfl | rfl | ⟨rfl, hb⟩
      · exact follow_of (by decide) (by decide) (by omega)
      · exact follow_of (by decide) (by decide) (by omega)
      · exact follow_of (by decide) (by decide) fun q => hb (by rw [q.1])
  · rcases hc with ⟨c, hc, e⟩ | ⟨c, hc, e⟩
    · rw [S_inj e]
      exact follow_one hc _
    · rw [S_inj e]
      have all : ∀ x ∈ [40, 41, 91, 93, 44, 59, 123, 125], isAl x = false ∧ x ≠ 61 ∧ x ≠ 47 := by decide
      obtain ⟨q1, q2, q3⟩ := all c hc
      exact follow_of q1 q2 fun q => q3 q.2
theorem GapSpec.last {pb g : List Nat} {a : Str} (h : GapSpec (S pb) a g) : Follow pb g := by
  rcases h.sep with ⟨d, hd, hc⟩ | ⟨rfl, _⟩
  · cases g with
    | nil => cases hd
    | cons x g' =>
      cases hd
      rcases hc with rfl | rfl | ⟨rfl, hb⟩
      · exact follow_of (by decide) (by decide) (by omega)
      · exact follow_of (by decide) (by decide) (by omega)
      · exact follow_of (by decide) (by decide) fun q => hb (by rw [q.1])
  · exact ⟨fun _ _ _ h _ => (by cases h), fun _ _ _ h _ => (by cases h), fun _ _ _ h => (by cases h)⟩
end Tk

set_option Elab.async false
set_option linter.all false
set_option maxRecDepth 100000
/-! what the law's own functions make -/
namespace Tk
open PySem Fx L2
def lawWord (r : Int) : Str := WORDS.getD (r % 25).toNat (S [])
def wordOk (w : Str) : Bool := match L w with
  | c :: p => isLet c && p.all isAl && decide (p.length ≤ 10)
  | [] => false
theorem words_ok : ∀ w ∈ WORDS, wordOk w = true ∧ ¬ 95 ∈ L w := by decide +kernel
theorem words_len : WORDS.length = 25 := by decide +kernel
theorem lawWord_mem (r : Int) : lawWord r ∈ WORDS := getD_mem _ (by rw [words_len]; have := emod_lo r (m := 25) (by decide); have := emod_hi r (m := 25) (by decide); omega)
theorem lawWord_piece (r : Int) : ∃ p, lawWord r = S p ∧ p.length ≤ 20 ∧ Piece p (Str.ofString "word") (.str (S p)) := by
  have h := lawWord_mem r
  generalize lawWord r = w at h
  have := (words_ok w h).1
  unfold wordOk at this
  split at this
  · rename_i c p e
    simp only [Bool.and_eq_true, decide_eq_true_eq] at this
    have es : w = S (c :: p) := by rw [← e, S_L]
    refine ⟨c :: p, es, by rw [List.length_cons]; omega, ?_⟩
    exact Piece.word this.1.1 (fun d hd => List.all_eq_true.mp this.1.2 d hd) (es ▸ h)
  · cases this
abbrev NAMES : Str := "abcxyzABCZ_letfunorislm"
def NL : List Nat := L NAMES
theorem nl_ok : NL.length = 23 ∧ ∀ c ∈ NL, isLet c = true := by decide +kernel
def nl (r : Int) : Nat := NL.getD (r % 23).toNat 0
theorem nl_let (r : Int) : isLet (nl r) = true := nl_ok.2 _ (getD_mem _ (by rw [nl_ok.1]; have := emod_lo r (m := 23) (by decide); have := emod_hi r (m := 23) (by decide); omega))
def lawName (r : Int) : List Nat := [nl r, nl (r / 23), 95] ++ (if r / 529 % 3 = 0 then TL.numL (r / 1587 % 100).toNat else [])
theorem numL_al (n : Nat) : ∀ c ∈ TL.numL n, isAl c = true := fun c hc => by
  have := TL.numL_digits n c hc
  unfold isAl isDig
  simp [this.1, this.2]
theorem let_al {c : Nat} (h : isLet c = true) : isAl c = true := by unfold isAl; rw [h]; rfl
theorem lawName_piece (r : Int) : (lawName r).length ≤ 20 ∧ Piece (lawName r) (Str.ofString "name") (.str (S (lawName r))) := by
  have h1 := emod_lo (r / 1587) (m := 100) (by decide)
  have h2 := emod_hi (r / 1587) (m := 100) (by decide)
  have hl := TL.numL_len (n := (r / 1587 % 100).toNat) (k := 2) (by decide) (by omega)
  have h95 : 95 ∈ lawName r := by unfold lawName; simp
  have hn : ¬ S (lawName r) ∈ WORDS := fun h => (words_ok _ h).2 (by rw [L_S]; exact h95)
  refine ⟨?_, ?_⟩
  · unfold lawName
    split
    · rw [List.length_append]; simp only [List.length_cons, List.length_nil]; omega
    · simp
  · unfold lawName at hn ⊢
    refine Piece.name (nl_let r) ?_ hn
    intro d hd
    have hd : d ∈ nl (r / 23) :: 95 :: (if r / 529 % 3 = 0 then TL.numL (r / 1587 % 100).toNat else []) := hd
    rcases List.mem_cons.mp hd with rfl | hd
    · exact let_al (nl_let _)
    rcases List.mem_cons.mp hd with rfl | hd
    · decide
    · split at hd
      · exact numL_al _ d hd
      · simp at hd
def CH : List Nat := [97, 90, 48, 32, 34, 92, 10, 110, 47, 126, 123, 39, 35, 59]
theorem ch_ok : ∀ c ∈ CH, isCh c = true := by decide
def chAt (r : Int) : Nat := CH.getD (r % 14).toNat 0
theorem chAt_ok (r : Int) : isCh (chAt r) = true := ch_ok _ (getD_mem _ (by have := emod_lo r (m := 14) (by decide); have := emod_hi r (m := 14) (by decide); show _ < 14; omega))
def lawText : Nat → Nat → Int → List Nat
  | 0, _, _ => []
  | n + 1, k, r => chAt r :: lawText n (k + 1) (r / 14 + k)
theorem lawText_len : ∀ n k r, (lawText n k r).length = n
  | 0, _, _ => rfl
  | n + 1, k, r => by unfold lawText; rw [List.length_cons, lawText_len n]
theorem lawText_ok : ∀ n k r, ∀ c ∈ lawText n k r, isCh c = true
  | 0, _, _, c, h => by simp [lawText] at h
  | n + 1, k, r, c, h => by
    unfold lawText at h
    rcases List.mem_cons.mp h with rfl | h
    · exact chAt_ok r
    · exact lawText_ok n _ _ c h
def theText (r : Int) : List Nat := lawText (r / 7 % 6).toNat 0 r
theorem theText_len (r : Int) : (theText r).length ≤ 5 := by
  unfold theText
  rw [lawText_len]
  have := emod_lo (r / 7) (m := 6) (by decide)
  have := emod_hi (r / 7) (m := 6) (by decide)
  omega
theorem spell_len : ∀ t : List Nat, (spell t).length ≤ 2 * t.length
  | [] => by simp [spell]
  | c :: t => by
    have e : spell (c :: t) = spell1 c ++ spell t := List.flatMap_cons
    have := spell_len t
    have h1 : (spell1 c).length ≤ 2 := by unfold spell1; split; simp; split; simp; split <;> simp
    rw [e, List.length_append, List.length_cons]
    omega
theorem spell_snoc (t : List Nat) (c : Nat) : spell (t ++ [c]) = spell t ++ spell1 c := by
  unfold spell
  rw [List.flatMap_append]
  simp
theorem theText_piece (r : Int) : (34 :: (spell (theText r) ++ [34])).length ≤ 20 ∧ Piece (34 :: (spell (theText r) ++ [34])) (Str.ofString "text") (.str (S (theText r))) := by
  refine ⟨?_, Piece.text (lawText_ok _ _ _)⟩
  have := spell_len (theText r)
  have := theText_len r
  simp only [List.length_cons, List.length_append, List.length_nil]
  omega
def lawNum (z n : Nat) : List Nat := List.replicate z 48 ++ TL.numL n
theorem lawNum_piece {z n : Nat} (hz : z ≤ 2) (hn : n < 10 ^ 12) : (lawNum z n).length ≤ 20 ∧ Piece (lawNum z n) (Str.ofString "number") (.int n) := by
  have hl := TL.numL_len (n := n) (k := 12) (by decide) hn
  refine ⟨?_, Piece.number (by omega)⟩
  unfold lawNum
  rw [List.length_append, List.length_replicate]
  omega
abbrev SIGNS : List Str := ["==", "!=", "<=", ">=", "(", ")", "[", "]", "{", "}", ",", ";", ":", ".", "=", "<", ">", "+", "-", "*", "/"]
def lawSign (r : Int) : Str := SIGNS.getD (r % 21).toNat (S [])
def signOk (w : Str) : Bool := match L w with
  | [c] => isSg c
  | [c, d] => isDbl c d
  | _ => false
theorem signs_ok : SIGNS.length = 21 ∧ ∀ w ∈ SIGNS, signOk w = true := by decide +kernel
theorem lawSign_piece (r : Int) : ∃ p, lawSign r = S p ∧ p.length ≤ 20 ∧ Piece p (Str.ofString "sign") (.str (S p)) := by
  have h : lawSign r ∈ SIGNS := getD_mem _ (by rw [signs_ok.1]; have := emod_lo r (m := 21) (by decide); have := emod_hi r (m := 21) (by decide); omega)
  generalize lawSign r = w at h
  have := signs_ok.2 w h
  unfold signOk at this
  split at this
  · rename_i c e
    have es : w = S [c] := by rw [← e, S_L]
    exact ⟨_, es, by simp, Piece.sign1 this⟩
  · rename_i c d e
    have es : w = S [c, d] := by rw [← e, S_L]
    exact ⟨_, es, by simp, Piece.sign2 this⟩
  · cases this
/-! gaps -/
def g1 (i : Nat) : List Nat := ([[32], [10], [32, 32, 10, 32], [32, 47, 47, 32, 97, 32, 34, 98, 10], [47, 47, 32, 123, 10, 10]] : List (List Nat)).getD i []
def g2 (i : Nat) : List Nat := ([[], [], [32], [10], [47, 47, 10]] : List (List Nat)).getD i []
theorem g1_gap : ∀ i, Gap (g1 i) ∧ (g1 i).length ≤ 9 ∧ (i < 5 → ∃ d, (g1 i).head? = some d ∧ (d = 32 ∨ d = 10 ∨ d = 47))
  | 0 => ⟨.blank (.inl rfl) .nil, by decide, fun _ => ⟨_, rfl, by decide⟩⟩
  | 1 => ⟨.blank (.inr rfl) .nil, by decide, fun _ => ⟨_, rfl, by decide⟩⟩
  | 2 => ⟨.blank (.inl rfl) (.blank (.inl rfl) (.blank (.inr rfl) (.blank (.inl rfl) .nil))), by decide, fun _ => ⟨_, rfl, by decide⟩⟩
  | 3 => ⟨.blank (.inl rfl) (.rem (r := [32, 97, 32, 34, 98]) (by decide) .nil), by decide, fun _ => ⟨_, rfl, by decide⟩⟩
  | 4 => ⟨.rem (r := [32, 123]) (by decide) (.blank (.inr rfl) .nil), by decide, fun _ => ⟨_, rfl, by decide⟩⟩
  | n + 5 => ⟨.nil, by simp [g1], fun h => by omega⟩
theorem g2_gap : ∀ i, Gap (g2 i) ∧ (g2 i).length ≤ 9 ∧ ((∃ d, (g2 i).head? = some d ∧ (d = 32 ∨ d = 10 ∨ d = 47)) ∨ g2 i = [])
  | 0 => ⟨.nil, by decide, .inr rfl⟩
  | 1 => ⟨.nil, by decide, .inr rfl⟩
  | 2 => ⟨.blank (.inl rfl) .nil, by decide, .inl ⟨_, rfl, by decide⟩⟩
  | 3 => ⟨.blank (.inr rfl) .nil, by decide, .inl ⟨_, rfl, by decide⟩⟩
  | 4 => ⟨.rem (r := []) (by decide) .nil, by decide, .inl ⟨_, rfl, by decide⟩⟩
  | n + 5 => ⟨.nil, by simp [g2], .inr rfl⟩
theorem gap_slash {b a : Str} {g : List Nat} (h : Gap g) (hl : g.length ≤ 9) : GapSpec b a (32 :: g) := ⟨.blank (.inl rfl) h, by rw [List.length_cons]; omega, .inl ⟨32, rfl, .inl rfl⟩⟩
theorem gap_one {b a : Str} (i : Nat) (hi : i < 5) (hb : b ≠ S [47]) : GapSpec b a (g1 i) := by
  obtain ⟨h1, h2, h3⟩ := g1_gap i
  obtain ⟨d, hd, hc⟩ := h3 hi
  exact ⟨h1, by omega, .inl ⟨d, hd, by
    rcases hc with h | h | h
    · exact .inl h
    · exact .inr (.inl h)
    · exact .inr (.inr ⟨h, hb⟩)⟩⟩
theorem gap_two {b a : Str} (i : Nat) (hb : b ≠ S [47]) (h : (∃ c ∈ [40, 41, 91, 93, 44, 59, 123, 125, 58], b = S [c]) ∨ ∃ c ∈ [40, 41, 91, 93, 44, 59, 123, 125], a = S [c]) : GapSpec b a (g2 i) := by
  obtain ⟨h1, h2, h3⟩ := g2_gap i
  refine ⟨h1, by omega, ?_⟩
  rcases h3 with ⟨d, hd, hc⟩ | h3
  · left
    exact ⟨d, hd, by
      rcases hc with h | h | h
      · exact .inl h
      · exact .inr (.inl h)
      · exact .inr (.inr ⟨h, hb⟩)⟩
  · exact .inr ⟨h3, h⟩
/-! tokens as data -/
def PV : V → Prop
  | .int _ => True
  | .str _ => True
  | .non => True
  | _ => False
theorem Piece.pv {p : List Nat} {k : Str} {v : V} (h : Piece p k v) : PV v := by cases h <;> trivial
def vd : V → PyData
  | .int i => .int i
  | .str s => .str s
  | _ => .none
def tokD (t : Tok) : PyData := .tuple [.str t.1, .int (t.2.1 : Nat), vd t.2.2]
theorem vd_dp {K : PySem.W.Frag} {H : Hp} {v : V} (h : PV v) : Dp K H v (vd v) := by
  cases v <;> first
    | exact .int _
    | exact .str _
    | exact .non
    | exact h.elim
theorem vd_ok (v : V) : (vd v).plain = true ∧ (vd v).depth = 0 := by
  cases v <;> exact ⟨rfl, rfl⟩
theorem toks_plain : ∀ ts : List Tok, PyData.plainAll (ts.map tokD) = true ∧ PyData.depthAll (ts.map tokD) ≤ 1
  | [] => ⟨rfl, by simp [PyData.depthAll]⟩
  | t :: ts => by
    have ih := toks_plain ts
    have h := vd_ok t.2.2
    have e1 : (tokD t).plain = true := by simp [tokD, PyData.plain, PyData.plainAll, h.1]
    have e2 : (tokD t).depth = 1 := by simp [tokD, PyData.depth, PyData.depthAll, h.2]
    rw [List.map_cons]
    refine ⟨by rw [PyData.plainAll, e1, ih.1]; rfl, ?_⟩
    rw [PyData.depthAll, e2]
    omega
theorem toks_okd (ts : List Tok) : okd (.list (ts.map tokD)) = true := by
  have h := toks_plain ts
  unfold okd
  rw [Bool.and_eq_true]
  refine ⟨by rw [PyData.plain]; exact h.1, decide_eq_true ?_⟩
  rw [PyData.depth]
  omega
theorem toks_eqv (ts : List Tok) : PyData.eqv (.list (ts.map tokD)) (.list (ts.map tokD)) = true :=
  SeqAt.eqv_refl_plain _ (by rw [PyData.plain]; exact (toks_plain ts).1)
end Tk

set_option Elab.async false
set_option linter.all false
set_option maxRecDepth 100000
/-! a thing that is no token, behind a row of pieces -/
namespace Tk
open PySem Fx L2
abbrev mChar : Str := "this character is not allowed"
abbrev mNum : Str := "the number is too great"
abbrev mEsc : Str := "the escape is not known"
abbrev mEnd : Str := "the text does not end"
/-- behind any text the thing is one fault -/
def Wrong (e : Bool) (w : List Nat) (off : Nat) (m : Str) : Prop := ∀ pre rest : List Nat, (e = true → rest = []) → Tks (pre ++ w ++ rest) pre.length [(Str.ofString "fault", pre.length + off, .str m)]
theorem quo_inner (st : Nat) : ∀ (t rest : List Nat) (i : Nat) (acc : List Nat), (∀ c ∈ t, isCh c = true) → quo st (spell t ++ rest) i acc = quo st rest (i + (spell t).length) (acc ++ t)
  | [], rest, i, acc, _ => by
    rw [List.append_nil]; rfl
  | c :: t, rest, i, acc, h => by
    have ih := fun i acc => quo_inner st t rest i acc fun d hd => h d (List.mem_cons_of_mem _ hd)
    have hc := h c List.mem_cons_self
    have e : spell (c :: t) = spell1 c ++ spell t := List.flatMap_cons
    rw [e, List.append_assoc, List.length_append]
    unfold spell1
    by_cases h1 : c = 10
    · subst h1
      rw [if_pos rfl]
      show quo st (92 :: 110 :: (spell t ++ rest)) i acc = _
      rw [quo]
      rw [if_neg (by decide), if_neg (by decide), if_neg (by decide), if_pos rfl]
      show quo st (spell t ++ rest) (i + 2) (acc ++ [10]) = _
      rw [ih, List.append_assoc, ← Nat.add_assoc i]
      rfl
    rw [if_neg h1]
    by_cases h2 : c = 34
    · subst h2
      rw [if_pos rfl]
      show quo st (92 :: 34 :: (spell t ++ rest)) i acc = _
      rw [quo]
      rw [if_neg (by decide), if_neg (by decide), if_neg (by decide), if_pos rfl]
      show quo st (spell t ++ rest) (i + 2) (acc ++ [34]) = _
      rw [ih, List.append_assoc, ← Nat.add_assoc i]
      rfl
    rw [if_neg h2]
    by_cases h3 : c = 92
    · subst h3
      rw [if_pos rfl]
      show quo st (92 :: 92 :: (spell t ++ rest)) i acc = _
      rw [quo]
      rw [if_neg (by decide), if_neg (by decide), if_neg (by decide), if_pos rfl]
      show quo st (spell t ++ rest) (i + 2) (acc ++ [92]) = _
      rw [ih, List.append_assoc, ← Nat.add_assoc i]
      rfl
    rw [if_neg h3]
    show quo st (c :: (spell t ++ rest)) i acc = _
    rw [quo.eq_def]
    dsimp only
    rw [if_neg h1, if_neg h2, if_neg (by rw [hc]; decide), if_neg h3, ih, List.append_assoc, ← Nat.add_assoc i]
    rfl
theorem tks_fault {pre rest : List Nat} {c : Nat} {w : List Nat} {off : Nat} {m : Str} (h1 : ¬ (c = 32 ∨ c = 10)) (h2 : c ≠ 47) (h : (tokenAt (pre ++ (c :: w) ++ rest) pre.length).1 = (Str.ofString "fault", pre.length + off, .str m)) :
    Tks (pre ++ (c :: w) ++ rest) pre.length [(Str.ofString "fault", pre.length + off, .str m)] := by
  have e : (pre ++ (c :: w) ++ rest)[pre.length]? = some c := by rw [List.append_assoc]; exact at_pre _ _ _
  have := Tks.fault (l := pre ++ (c :: w) ++ rest) (i := pre.length) e h1 (fun q => h2 q.1) (by rw [h])
  rw [h] at this
  exact this
/-- a text that goes wrong behind its inner part -/
theorem wrong_text {e : Bool} {t w : List Nat} {off : Nat} {m : Str} (ht : ∀ c ∈ t, isCh c = true)
    (h : ∀ (st i : Nat) (acc rest : List Nat), (e = true → rest = []) → i = st + 1 + (spell t).length → (quo st (w ++ rest) i acc).1 = (Str.ofString "fault", st + off, .str m)) : Wrong e (34 :: (spell t ++ w)) off m := by
  intro pre rest hr
  refine tks_fault (by decide) (by decide) ?_
  have e1 : (pre ++ (34 :: (spell t ++ w)) ++ rest)[pre.length]? = some 34 := by rw [List.append_assoc]; exact at_pre _ _ _
  unfold tokenAt
  rw [e1]
  dsimp only
  rw [if_neg (by decide), if_neg (by decide), if_pos rfl]
  have ed : (pre ++ (34 :: (spell t ++ w)) ++ rest).drop (pre.length + 1) = spell t ++ (w ++ rest) := by
    rw [List.append_assoc, ← List.drop_drop, List.drop_left]
    simp
  rw [ed, quo_inner _ _ _ _ _ ht]
  exact h _ _ _ _ hr rfl
theorem wrong_esc {t : List Nat} {d : Nat} (ht : ∀ c ∈ t, isCh c = true) (hd : esc d = none) (w : List Nat) : Wrong false (34 :: (spell t ++ 92 :: d :: w)) (1 + (spell t).length) mEsc := by
  refine wrong_text ht fun st i acc rest _ hi => ?_
  show (quo st (92 :: d :: (w ++ rest)) i acc).1 = _
  rw [quo.eq_def]
  dsimp only
  rw [if_neg (by decide), if_neg (by decide), if_neg (by decide), if_pos rfl, hd]
  dsimp only
  rw [hi, Nat.add_assoc]
theorem wrong_nl {t : List Nat} (ht : ∀ c ∈ t, isCh c = true) : Wrong false (34 :: (spell t ++ [10])) 0 mEnd := by
  refine wrong_text ht fun st i acc rest _ hi => ?_
  show (quo st (10 :: rest) i acc).1 = _
  rw [quo.eq_def]
  rfl
theorem wrong_fin {t : List Nat} (ht : ∀ c ∈ t, isCh c = true) : Wrong true (34 :: spell t) 0 mEnd := by
  have := wrong_text (e := true) (w := []) (off := 0) (m := mEnd) ht fun st i acc rest hr hi => by
    rw [hr rfl]
    rfl
  rw [List.append_nil] at this
  exact this
theorem wrong_tab {t : List Nat} (ht : ∀ c ∈ t, isCh c = true) (w : List Nat) : Wrong false (34 :: (spell t ++ 9 :: w)) (1 + (spell t).length) mChar := by
  refine wrong_text ht fun st i acc rest _ hi => ?_
  show (quo st (9 :: (w ++ rest)) i acc).1 = _
  rw [quo.eq_def]
  dsimp only
  rw [if_neg (by decide), if_neg (by decide), if_pos (by decide), hi, Nat.add_assoc]
theorem wrong_bs {t : List Nat} (ht : ∀ c ∈ t, isCh c = true) : Wrong true (34 :: (spell t ++ [92])) 0 mEnd := by
  refine wrong_text ht fun st i acc rest hr hi => ?_
  rw [hr rfl]
  rfl
theorem wrong_char {c : Nat} (hc : c ∈ [35, 38, 64, 33, 63, 126, 94, 124, 36, 39, 92, 96]) : Wrong false [c, 32] 0 mChar := by
  intro pre rest _
  have all : ∀ c ∈ [35, 38, 64, 33, 63, 126, 94, 124, 36, 39, 92, 96], isLet c = false ∧ isDig c = false ∧ c ≠ 34 ∧ c ≠ 32 ∧ c ≠ 10 ∧ c ≠ 47 ∧ isSg c = false := by decide
  obtain ⟨q1, q2, q3, q4, q5, q6, q7⟩ := all c hc
  refine tks_fault (by omega) q6 ?_
  have e1 : (pre ++ [c, 32] ++ rest)[pre.length]? = some c := by rw [List.append_assoc]; exact at_pre _ _ _
  unfold tokenAt
  rw [e1]
  dsimp only
  have hd : dblAt (pre ++ [c, 32] ++ rest) pre.length c = false := by
    unfold dblAt
    have e2 : (pre ++ [c, 32] ++ rest)[pre.length + 1]? = some 32 := by rw [List.append_assoc]; exact at_pre1 _ _ _
    rw [e2]
    rfl
  rw [if_neg (by rw [q1]; decide), if_neg (by rw [q2]; decide), if_neg q3, hd, if_neg (by decide), if_neg (by rw [q7]; decide)]
  rfl
def bigNum (z k : Nat) : List Nat := List.replicate z 48 ++ (49 :: List.replicate (300 + k) 48)
theorem bigNum_dig (z k : Nat) : ∀ c ∈ bigNum z k, isDig c = true := by
  intro c hc
  rcases List.mem_append.mp hc with h | h
  · rw [List.eq_of_mem_replicate h]; decide
  rcases List.mem_cons.mp h with rfl | h
  · decide
  · rw [List.eq_of_mem_replicate h]; decide
theorem wrong_num (z k : Nat) : Wrong false (bigNum z k ++ [32]) 0 mNum := by
  intro pre rest _
  have all := bigNum_dig z k
  obtain ⟨c, r, ec, hne⟩ : ∃ c r, bigNum z k = c :: r ∧ isDig c = true := by
    cases e : bigNum z k with
    | nil => exact absurd (List.append_eq_nil_iff.mp e).2 (by simp)
    | cons c r => exact ⟨c, r, rfl, all c (by rw [e]; exact List.mem_cons_self)⟩
  obtain ⟨q1, q2, q3, q4, q5⟩ := dig_cases hne
  have ew : bigNum z k ++ [32] = c :: (r ++ [32]) := by rw [ec]; rfl
  rw [ew]
  refine tks_fault (by omega) q5 ?_
  have e1 : (pre ++ (c :: (r ++ [32])) ++ rest)[pre.length]? = some c := by rw [List.append_assoc]; exact at_pre _ _ _
  unfold tokenAt
  rw [e1]
  dsimp only
  rw [if_neg (by rw [q1]; decide), if_pos hne]
  have es : pre ++ (c :: (r ++ [32])) ++ rest = pre ++ bigNum z k ++ ([32] ++ rest) := by rw [ec]; simp
  rw [es, stop_run pre (bigNum z k) ([32] ++ rest) all (fun d hd => by cases hd; rfl)]
  unfold numTok
  rw [cut_mid']
  have ed : (bigNum z k).dropWhile (· == 48) = 49 :: List.replicate (300 + k) 48 := by
    unfold bigNum
    rw [drop_rep]
    rfl
  rw [ed, if_pos (by rw [List.length_cons, List.length_replicate]; omega)]
  rfl
/-- the row, a blank, the wrong thing, more -/
theorem Tks.wrong {rs : List Seg} {e : Bool} {w rest : List Nat} {off : Nat} {m : Str} (hl : Linked rs) (h : Wrong e w off m) (hr : e = true → rest = []) :
    Tks (cat rs ++ [32] ++ w ++ rest) 0 (dues rs ++ [(Str.ofString "fault", (cat rs ++ [32]).length + off, .str m)]) := by
  have e1 : cat rs ++ [32] ++ w ++ rest = cat rs ++ ([32] ++ w ++ rest) := by simp
  rw [e1]
  refine Tks.row rs _ _ hl (fun t _ => ?_) ?_
  · show Follow t.p (32 :: _)
    exact follow_of (by decide) (by decide) (by omega)
  · rw [← e1]
    refine Tks.blank (c := 32) ?_ (.inl rfl) ?_
    · rw [List.append_assoc, List.append_assoc]
      exact at_pre _ _ _
    · have := h (cat rs ++ [32]) rest hr
      rw [show (cat rs).length + 1 = (cat rs ++ [32]).length by simp]
      exact this
/-! what the law's _law_wrong draws -/
def inners (n k : Nat) : List Nat := [97, 98, 32, 99].take n ++ [92].take k
theorem inners_ok (n k : Nat) : ∀ c ∈ inners n k, isCh c = true := by
  intro c hc
  have : ∀ c ∈ [97, 98, 32, 99] ++ [92], isCh c = true := by decide
  refine this c ?_
  rcases List.mem_append.mp hc with h | h
  · exact List.mem_append_left _ (List.mem_of_mem_take h)
  · exact List.mem_append_right _ (List.mem_of_mem_take h)
theorem inners_spell : ∀ n k : Nat, n < 5 → k < 2 → spell (inners n k) = [97, 98, 32, 99].take n ++ [92, 92].take (2 * k) := by
  intro n k hn hk
  have h1 : n = 0 ∨ n = 1 ∨ n = 2 ∨ n = 3 ∨ n = 4 := by omega
  have h2 : k = 0 ∨ k = 1 := by omega
  rcases h1 with rfl | rfl | rfl | rfl | rfl <;> rcases h2 with rfl | rfl <;> rfl
theorem inners_len (n k : Nat) (hn : n < 5) (hk : k < 2) : (spell (inners n k)).length ≤ 6 := by
  rw [inners_spell n k hn hk, List.length_append, List.length_take, List.length_take]
  simp; omega
end Tk

set_option Elab.async false
set_option linter.all false
set_option maxRecDepth 100000
set_option maxHeartbeats 1000000
namespace My
open PySem L2 Fx Tk
local macro_rules | `(tactic| walk_at "fx") => `(tactic| try simp only [L2.start, List.map_cons, List.map_nil, List.length_cons, List.length_nil, Nat.reduceAdd, Nat.reduceSub, List.reduceReplicate, List.cons_append, List.nil_append, List.append_nil,
  tSeq, fVar, tVar, tC, tOp, tUn, tCons, tNil, fTup, fLst, tAsg, gName, tRet, tRetN, tDrop, tNext, tIf, tAnd, tOr, tNot, tTest, tB, tAug, tChain, tNotV, tAndV, tOrV, tSl, tPart, tNoPart, tCB, tCall, fBM, fBM0, tBreak, tCont, gTup, gCons, gNil,
  fAdd, fSub, fMul, fDiv, fMod, fNeg, fLt, fLe, fGt, fGe, fIx, fSl, fLen, fInt, fStr, fAbs, fMax, fMin, fOrd, fIsN, fNotN, fIsi, fListOf, isLst, isStr, isDct, fAppend, fS1, fJoin, fLstripC, fIAdd, fISub, fSet, tyOf, fEq, scal, fIn, iRng1, iRng2, iList, iTup, iStr, gSub, fGt_,
  List.getElem?_cons_zero, List.getElem?_cons_succ, List.set_cons_zero, List.set_cons_succ, upd_same, S_cps, S_len, L_S, one_list, flatV,
  V.int.injEq, V.str.injEq, V.bl.injEq, V.ref.injEq, Option.some.injEq, List.cons.injEq, exists_eq_left', exists_eq_left, exists_and_left, ex2, and_true, true_and, decide_eq_true_eq, Bool.not_eq_true', decide_eq_false_iff_not, Bool.false_eq_true, Bool.true_eq_false, Int.zero_add, Int.toNat_natCast, if_true, if_false, ite_true, ite_false, reduceIte, Int.reduceLT, Int.reduceLE, Int.reduceNeg, Int.reduceAdd, Nat.reduceLT, Nat.reduceLeDiff, Bool.not_true, Bool.not_false, kitBv, kitBs, not_true_eq_false, not_false_eq_true, Bool.or_false, Bool.false_or, Bool.or_true, Bool.true_or])
local macro_rules | `(tactic| walk_at "fx0") => `(tactic| dsimp only [cxOf, Cx.nox, Cx.wish])
local macro_rules | `(tactic| walk_at "mul") => `(tactic| first | exact mul_left (by decide) (by decide) | exact mul_right (by decide) (by decide) | exact mul_left (by omega) (by omega) | exact mul_right (by omega) (by omega))
local macro_rules | `(tactic| walk_at "rm") => `(tactic| first | decide | exact Nat.le_refl _ | omega)

def topS (i : Nat) : Stmt := PySem.Challenge.pw_livequill_k02_faults_of_tokens.main.body.getD i (.Pass ⟨0, 0, 0, 0⟩)
abbrev s_is_character : Stmt := topS 8
theorem sc_is_character : FnScope ["char", "code"] ["char"] (defScope s_is_character) := ⟨rfl, rfl, rfl, by decide +kernel, rfl, by decide +kernel, by decide +kernel⟩
abbrev s_run_stop : Stmt := topS 9
theorem sc_run_stop : FnScope ["text", "start", "chars", "at"] ["text", "start", "chars"] (defScope s_run_stop) := ⟨rfl, rfl, rfl, by decide +kernel, rfl, by decide +kernel, by decide +kernel⟩
abbrev s_comment_stop : Stmt := topS 10
theorem sc_comment_stop : FnScope ["text", "start", "at"] ["text", "start"] (defScope s_comment_stop) := ⟨rfl, rfl, rfl, by decide +kernel, rfl, by decide +kernel, by decide +kernel⟩
abbrev s_word_or_name : Stmt := topS 11
theorem sc_word_or_name : FnScope ["text", "start", "stop", "run"] ["text", "start", "stop"] (defScope s_word_or_name) := ⟨rfl, rfl, rfl, by decide +kernel, rfl, by decide +kernel, by decide +kernel⟩
abbrev s_number_token : Stmt := topS 12
theorem sc_number_token : FnScope ["text", "start", "stop", "digits"] ["text", "start", "stop"] (defScope s_number_token) := ⟨rfl, rfl, rfl, by decide +kernel, rfl, by decide +kernel, by decide +kernel⟩
abbrev s_quoted : Stmt := topS 13
theorem sc_quoted : FnScope ["text", "start", "chars", "at", "char"] ["text", "start"] (defScope s_quoted) := ⟨rfl, rfl, rfl, by decide +kernel, rfl, by decide +kernel, by decide +kernel⟩
abbrev s_escaped : Stmt := topS 14
theorem sc_escaped : FnScope ["char"] ["char"] (defScope s_escaped) := ⟨rfl, rfl, rfl, by decide +kernel, rfl, by decide +kernel, by decide +kernel⟩
abbrev s_token_at : Stmt := topS 15
theorem sc_token_at : FnScope ["text", "at", "char", "stop"] ["text", "at"] (defScope s_token_at) := ⟨rfl, rfl, rfl, by decide +kernel, rfl, by decide +kernel, by decide +kernel⟩
abbrev s_tokens_of : Stmt := topS 16
theorem sc_tokens_of : FnScope ["text", "tokens", "at", "token"] ["text"] (defScope s_tokens_of) := ⟨rfl, rfl, rfl, by decide +kernel, rfl, by decide +kernel, by decide +kernel⟩
abbrev s_law_rows : Stmt := topS 18
theorem sc_law_rows : FnScope ["script", "count", "rows", "k", "cell"] ["script", "count"] (defScope s_law_rows) := ⟨rfl, rfl, rfl, by decide +kernel, rfl, by decide +kernel, by decide +kernel⟩
abbrev s_law_word : Stmt := topS 19
theorem sc_law_word : FnScope ["row", "words"] ["row"] (defScope s_law_word) := ⟨rfl, rfl, rfl, by decide +kernel, rfl, by decide +kernel, by decide +kernel⟩
abbrev s_law_name : Stmt := topS 20
theorem sc_law_name : FnScope ["row", "letters", "name"] ["row"] (defScope s_law_name) := ⟨rfl, rfl, rfl, by decide +kernel, rfl, by decide +kernel, by decide +kernel⟩
abbrev s_law_text : Stmt := topS 21
theorem sc_law_text : FnScope ["row", "chars", "text", "k"] ["row"] (defScope s_law_text) := ⟨rfl, rfl, rfl, by decide +kernel, rfl, by decide +kernel, by decide +kernel⟩
abbrev s_law_spelled : Stmt := topS 22
theorem sc_law_spelled : FnScope ["text", "spelled", "char"] ["text"] (defScope s_law_spelled) := ⟨rfl, rfl, rfl, by decide +kernel, rfl, by decide +kernel, by decide +kernel⟩
abbrev s_law_piece : Stmt := topS 23
theorem sc_law_piece : FnScope ["row", "kind", "rest", "number", "signs"] ["row"] (defScope s_law_piece) := ⟨rfl, rfl, rfl, by decide +kernel, rfl, by decide +kernel, by decide +kernel⟩
abbrev s_law_gap : Stmt := topS 24
theorem sc_law_gap : FnScope ["row", "before", "after", "gaps"] ["row", "before", "after"] (defScope s_law_gap) := ⟨rfl, rfl, rfl, by decide +kernel, rfl, by decide +kernel, by decide +kernel⟩
abbrev s_law_wrong : Stmt := topS 25
theorem sc_law_wrong : FnScope ["row", "rest", "chars", "inner"] ["row"] (defScope s_law_wrong) := ⟨rfl, rfl, rfl, by decide +kernel, rfl, by decide +kernel, by decide +kernel⟩
abbrev s_law_like : Stmt := topS 26
theorem sc_law_like : FnScope ["told", "due", "k"] ["told", "due"] (defScope s_law_like) := ⟨rfl, rfl, rfl, by decide +kernel, rfl, by decide +kernel, by decide +kernel⟩
abbrev s_law : Stmt := topS 27
theorem sc_law : FnScope ["script", "rows", "text", "due", "before", "k", "piece", "wrong"] ["script"] (defScope s_law) := ⟨rfl, rfl, rfl, by decide +kernel, rfl, by decide +kernel, by decide +kernel⟩
--!none range len int isinstance bool ord list tuple str
structure Txt (K : PySem.W.Frag) (mg : Str → Option Value) : Prop where
  no_bool : mg "bool" = none
  no_int : mg "int" = none
  no_isinstance : mg "isinstance" = none
  no_len : mg "len" = none
  no_list : mg "list" = none
  no_ord : mg "ord" = none
  no_range : mg "range" = none
  no_str : mg "str" = none
  no_tuple : mg "tuple" = none
  g_DIGITS : ∃ t, mg "DIGITS" = some (.str "0123456789" t)
  g_DOUBLE_SIGNS : GTup K mg "DOUBLE_SIGNS" [.str "==", .str "!=", .str "<=", .str ">="]
  g_LETTERS : ∃ t, mg "LETTERS" = some (.str "ABCDEFGHIJKLMNOPQRSTUVWXYZabcdefghijklmnopqrstuvwxyz_" t)
  g_MOST_DIGITS : ∃ t, mg "MOST_DIGITS" = some (.int 300 t)
  g_PERCENT : ∃ t, mg "PERCENT" = some (.int 37 t)
  g_SINGLE_SIGNS : ∃ t, mg "SINGLE_SIGNS" = some (.str "()[]{},;:.=<>+-*/" t)
  g_WORDS : GTup K mg "WORDS" [.str "let", .str "fun", .str "class", .str "extends", .str "if", .str "else", .str "while", .str "for", .str "in", .str "break", .str "continue", .str "return", .str "throw", .str "try", .str "catch", .str "and", .str "or", .str "not", .str "is", .str "mod", .str "true", .str "false", .str "null", .str "this", .str "super"]
/-! ### the program's tokens, def by def -/
section
variable {P : Program} {w : World} {K : PySem.W.Frag} {mg : Str → Option Value} {base : Heap}
theorem getI {l : List Nat} {i : Nat} (h : i < l.length) : ∃ c, l[i]? = some c ∧ atI l (i : Int) = some c := ⟨l[i], List.getElem?_eq_getElem h, atI_nat (List.getElem?_eq_getElem h)⟩
def spIsCh : Sp := fun vs H Q _ => match vs with
  | [.str z] => ∃ c, L z = [c] ∧ Q (.bl (isCh c)) H
  | _ => False
theorem ok_is_character (A : At K mg "is_character" "is_character" s_is_character ["char"]) (T : Txt K mg) : Has P w K mg base CX0 "is_character" 1 ["char"] spIsCh := by
  have Sc := sc_is_character
  refine has_of A Sc (fun vs H Q E h => ?_) (fun cdv f A outer s H vs Q E hr h => ?_)
  · unfold spIsCh at h; split at h; rfl; cases h
  · unfold spIsCh at h
    split at h
    · rename_i z
      obtain ⟨c, hz, k⟩ := h
      obtain ⟨l, rfl⟩ : ∃ l, z = S l := ⟨_, (S_L z).symm⟩
      rw [L_S] at hz
      subst hz
      refine ⟨_, (pss_cons (ps_set (i := 1) Sc.nd rfl (.inl rfl) (pe_callB call_fOrd (by rfl) T.no_ord (by decide +kernel) (pa_cons (fe_var 0) pa_nil)))
      (pss_one (ps_ret (pe_or (pe_cmpR (op_fEq hr.units) (fe_var 0) pe_str (nomark _)) (pe_one (pe_and (pe_chain op_fLe op_fLe pe_int (fe_var 1) pe_int) (pe_one (pe_cmpR (op_fNe hr.units) (fe_var 1) (fe_gint (by rfl) T.g_PERCENT) (nomark _))))))))), ?_⟩
      walk_at "fx0"
      walk_at "fx"
      have e : Str.ofString "\n" = S [10] := by decide +kernel
      have e2 : decide (S [c] = S [10]) = decide (c = 10) := by
        rw [Bool.eq_iff_iff, decide_eq_true_eq, decide_eq_true_eq]
        exact ⟨fun h => (List.cons.inj (S_inj h)).1, fun h => by rw [h]⟩
      rw [e]
      by_cases h10 : c = 10
      · subst h10
        rw [if_pos rfl]
        exact k
      · rw [if_neg (fun h => h10 ((List.cons.inj (S_inj h)).1))]
        by_cases h1 : 32 ≤ c
        · by_cases h2 : c ≤ 126
          · rw [if_pos (by omega), if_pos (by omega)]
            have e3 : (!decide ((c : Int) = 37)) = isCh c := by
              unfold isCh
              rw [Bool.eq_iff_iff]
              simp only [Bool.not_eq_true', decide_eq_false_iff_not, Bool.or_eq_true, Bool.and_eq_true, decide_eq_true_eq]
              omega
            rw [e3]; exact k
          · have e3 : isCh c = false := by
              unfold isCh
              simp only [Bool.or_eq_false_iff, Bool.and_eq_false_iff, decide_eq_false_iff_not]
              omega
            rw [e3] at k
            rw [if_pos (by omega), if_neg (by omega)]; exact k
        · have e3 : isCh c = false := by
            unfold isCh
            simp only [Bool.or_eq_false_iff, Bool.and_eq_false_iff, decide_eq_false_iff_not]
            omega
          rw [e3] at k
          rw [if_neg (by omega)]; exact k
    · cases h
theorem cut_S (l : List Nat) {i j : Nat} (h : i ≤ j) (h2 : j ≤ l.length) : cutS (S l) (some (i : Int)) (some (j : Int)) = S (cut l i j) := by
  rw [cut_mid l (by omega) (by omega) (by omega)]
  rfl
def spRun : Sp := fun vs H Q _ => match vs with
  | [.str z, .int s, .str cs] => (0 ≤ s ∧ s ≤ z.length ∧ z.length ≤ 100000) ∧ Q (.int ((stop (fun c => decide (c ∈ L cs)) (L z) s.toNat : Nat) : Int)) H
  | _ => False
theorem ok_run_stop (A : At K mg "run_stop" "run_stop" s_run_stop ["text", "start", "chars"]) (T : Txt K mg) : Has P w K mg base CX0 "run_stop" 1 ["text", "start", "chars"] spRun := by
  have Sc := sc_run_stop
  refine has_of A Sc (fun vs H Q E h => ?_) (fun cdv f A outer s H vs Q E hr h => ?_)
  · unfold spRun at h; split at h; rfl; cases h
  · unfold spRun at h
    split at h
    · rename_i z st cs
      obtain ⟨⟨h0, h1, h2⟩, k⟩ := h
      obtain ⟨l, rfl⟩ : ∃ l, z = S l := ⟨_, (S_L z).symm⟩
      obtain ⟨n, rfl⟩ := Int.eq_ofNat_of_zero_le h0
      rw [L_S, Int.toNat_natCast] at k
      rw [S_len] at h1 h2
      refine ⟨_, (pss_cons (ps_set (i := 3) Sc.nd rfl (.inl rfl) (fe_var 1))
      (pss_cons (ps_while PassesOwn.never (PW.pt (pw_and (pt_cmpR op_fLt (fe_var 3) (pe_callB call_fLen (by rfl) T.no_len (by decide +kernel) (pa_cons (fe_var 0) pa_nil)) (nomark _)) (pw_and1 (pt_cmpR op_fIn (pe_ix ix_fx (fe_var 0) (fe_var 3) (fun _ _ => rfl)) (fe_var 2) (by with_unfolding_all rfl))))) (pss_one (ps_aug (i := 3) Sc.nd rfl (.inl rfl) pe_int ip_fAdd)))
      (pss_one (ps_ret (fe_var 3))))), ?_⟩
      walk_at "fx0"
      walk_at "fx"
      refine ⟨fun m σ H' => H' = H ∧ ∃ i : Nat, σ = [some (.str (S l)), some (.int (n : Int)), some (.str cs), some (.int (i : Int))] ∧ i ≤ l.length ∧ m = l.length - i ∧ stop (fun c => decide (c ∈ L cs)) l i = stop (fun c => decide (c ∈ L cs)) l n,
        ⟨_, rfl, n, rfl, by omega, rfl, rfl⟩, ?_⟩
      rintro m σ H' ⟨rfl, i, rfl, hi, rfl, e⟩
      walk_at "fx"
      refine ⟨len_line (by omega), ?_⟩
      by_cases hlt : i < l.length
      · obtain ⟨c, hc, ec⟩ := getI hlt
        rw [if_pos (by omega)]
        refine ⟨len_line (by omega), c, ec, ?_⟩
        have em : decide (c ∈ cs.cps.toList) = decide (c ∈ L cs) := rfl
        by_cases hp : c ∈ L cs
        · rw [if_pos (show c ∈ cs.cps.toList from hp)]
          refine ⟨_, fun _ _ h => h, ?_⟩
          rw [stop_step hc (by simpa using hp)] at e
          exact ⟨l.length - (i + 1), by omega, rfl, i + 1, rfl, by omega, rfl, e⟩
        · rw [if_neg (show ¬ c ∈ cs.cps.toList from hp)]
          rw [stop_out hc (by simpa using hp)] at e
          rw [e]; exact k
      · rw [if_neg (by omega)]
        rw [stop_end (by omega)] at e
        rw [e]; exact k
    · cases h
def spCom : Sp := fun vs H Q _ => match vs with
  | [.str z, .int s] => (0 ≤ s ∧ s ≤ z.length ∧ z.length ≤ 100000) ∧ Q (.int ((stop isNl (L z) s.toNat : Nat) : Int)) H
  | _ => False
theorem one_ne (c d : Nat) : (S [c] = S [d]) = (c = d) := propext ⟨fun h => (List.cons.inj (S_inj h)).1, fun h => by rw [h]⟩
theorem str_nl : Str.ofString "\n" = S [10] := by decide +kernel
theorem ok_comment_stop (A : At K mg "comment_stop" "comment_stop" s_comment_stop ["text", "start"]) (T : Txt K mg) : Has P w K mg base CX0 "comment_stop" 1 ["text", "start"] spCom := by
  have Sc := sc_comment_stop
  refine has_of A Sc (fun vs H Q E h => ?_) (fun cdv f A outer s H vs Q E hr h => ?_)
  · unfold spCom at h; split at h; rfl; cases h
  · unfold spCom at h
    split at h
    · rename_i z st
      obtain ⟨⟨h0, h1, h2⟩, k⟩ := h
      obtain ⟨l, rfl⟩ : ∃ l, z = S l := ⟨_, (S_L z).symm⟩
      obtain ⟨n, rfl⟩ := Int.eq_ofNat_of_zero_le h0
      rw [L_S, Int.toNat_natCast] at k
      rw [S_len] at h1 h2
      refine ⟨_, (pss_cons (ps_set (i := 2) Sc.nd rfl (.inl rfl) (fe_var 1))
      (pss_cons (ps_while PassesOwn.never (PW.pt (pw_and (pt_cmpR op_fLt (fe_var 2) (pe_callB call_fLen (by rfl) T.no_len (by decide +kernel) (pa_cons (fe_var 0) pa_nil)) (nomark _)) (pw_and1 (pt_cmpR (op_fNe hr.units) (pe_ix ix_fx (fe_var 0) (fe_var 2) (fun _ _ => rfl)) pe_str (nomark _))))) (pss_one (ps_aug (i := 2) Sc.nd rfl (.inl rfl) pe_int ip_fAdd)))
      (pss_one (ps_ret (fe_var 2))))), ?_⟩
      walk_at "fx0"
      walk_at "fx"
      refine ⟨fun m σ H' => H' = H ∧ ∃ i : Nat, σ = [some (.str (S l)), some (.int (n : Int)), some (.int (i : Int))] ∧ i ≤ l.length ∧ m = l.length - i ∧ stop isNl l i = stop isNl l n,
        ⟨_, rfl, n, rfl, by omega, rfl, rfl⟩, ?_⟩
      rintro m σ H' ⟨rfl, i, rfl, hi, rfl, e⟩
      walk_at "fx"
      refine ⟨len_line (by omega), ?_⟩
      by_cases hlt : i < l.length
      · obtain ⟨c, hc, ec⟩ := getI hlt
        rw [if_pos (by omega)]
        refine ⟨len_line (by omega), c, ec, ?_⟩
        rw [str_nl]
        simp only [S_one, one_ne]
        by_cases hp : c = 10
        · subst hp
          rw [stop_out hc rfl] at e
          simp only [decide_true, Bool.not_true, Bool.false_eq_true, if_false]
          walk_at "fx"
          rw [e]; exact k
        · rw [stop_step hc (by simp [isNl, hp])] at e
          simp only [hp]
          walk_at "fx"
          refine ⟨_, fun _ _ h => h, ?_⟩
          exact ⟨l.length - (i + 1), by omega, rfl, i + 1, rfl, by omega, rfl, e⟩
      · rw [if_neg (by omega)]
        rw [stop_end (by omega)] at e
        rw [e]; exact k
    · cases h
def IsTok (H : Hp) (a : Addr) (t : Tk.Tok) : Prop := H a = some (.tup [.str t.1, .int ((t.2.1 : Nat) : Int), t.2.2])
theorem inV_words (x : Str) : ∀ ws : List Str, inV (.str x) (ws.map V.str) = decide (x ∈ ws)
  | [] => by simp [inV]
  | y :: r => by
    have ih := inV_words x r
    unfold inV at ih ⊢
    rw [List.map_cons, List.any_cons, ih]
    show (decide (y = x) || decide (x ∈ r)) = _
    rw [Bool.eq_iff_iff]
    simp only [Bool.or_eq_true, decide_eq_true_eq, List.mem_cons]
    exact ⟨fun h => h.elim (fun e => .inl e.symm) .inr, fun h => h.elim (fun e => .inl e.symm) .inr⟩
def spWord : Sp := fun vs H Q _ => match vs with
  | [.str z, .int s, .int e] => ((0 ≤ s ∧ s ≤ e) ∧ e ≤ z.length ∧ z.length ≤ 100000) ∧ ∀ p H1, H p = none → Same H H1 → IsTok H1 p (wordTok (L z) s.toNat e.toNat) → Q (.ref p) H1
  | _ => False
theorem ok_word_or_name (A : At K mg "word_or_name" "word_or_name" s_word_or_name ["text", "start", "stop"]) (T : Txt K mg) : Has P w K mg base CX0 "word_or_name" 1 ["text", "start", "stop"] spWord := by
  have Sc := sc_word_or_name
  refine has_of A Sc (fun vs H Q E h => ?_) (fun cdv f A outer s H vs Q E hr h => ?_)
  · unfold spWord at h; split at h; rfl; cases h
  · unfold spWord at h
    split at h
    · rename_i z st e
      obtain ⟨⟨⟨h0, h1⟩, h2, h3⟩, k⟩ := h
      obtain ⟨l, rfl⟩ : ∃ l, z = S l := ⟨_, (S_L z).symm⟩
      obtain ⟨i, rfl⟩ := Int.eq_ofNat_of_zero_le h0
      obtain ⟨j, rfl⟩ := Int.eq_ofNat_of_zero_le (Int.le_trans h0 h1)
      rw [L_S, Int.toNat_natCast, Int.toNat_natCast] at k
      rw [S_len] at h2 h3
      refine ⟨_, (pss_cons (ps_set (i := 3) Sc.nd rfl (.inl rfl) (pe_slice sl_fx (fe_var 0) (po_some (fe_var 1)) (po_some (fe_var 2))))
      (pss_cons (ps_if (pt_cmpR op_fIn (fe_var 3) (fe_gtup (by rfl) T.g_WORDS) (by with_unfolding_all rfl)) (pss_one (ps_ret (fe_tup (pa_cons pe_str (pa_cons (fe_var 1) (pa_cons (fe_var 3) pa_nil)))))) pss_nil)
      (pss_one (ps_ret (fe_tup (pa_cons pe_str (pa_cons (fe_var 1) (pa_cons (fe_var 3) pa_nil)))))))), ?_⟩
      walk_at "fx0"
      walk_at "fx"
      refine ⟨len_line (by omega), ?_⟩
      rw [cut_S l (by omega) (by omega)]
      refine ifs_ ?_
      walk_at "fx"
      intro aW hW
      refine ⟨_, .inr (hW H), by decide +kernel, ?_⟩
      have e1 := inV_words (S (cut l i j)) WORDS
      have e2 : inV (V.str (S (cut l i j))) [V.str "let", V.str "fun", V.str "class", V.str "extends", V.str "if", V.str "else", V.str "while", V.str "for", V.str "in", V.str "break", V.str "continue", V.str "return", V.str "throw", V.str "try", V.str "catch", V.str "and", V.str "or", V.str "not", V.str "is", V.str "mod", V.str "true", V.str "false", V.str "null", V.str "this", V.str "super"] = decide (S (cut l i j) ∈ WORDS) := e1
      rw [e2]
      unfold wordTok at k
      by_cases hw : S (cut l i j) ∈ WORDS
      · rw [if_pos hw] at k
        rw [decide_eq_true hw, if_pos rfl]
        walk_at "fx"
        exact k
      · rw [if_neg hw] at k
        rw [decide_eq_false hw, if_neg (by decide)]
        walk_at "fx"
        exact k
    · cases h
def spNumber : Sp := fun vs H Q _ => match vs with
  | [.str z, .int s, .int e] => ((0 ≤ s ∧ s ≤ e) ∧ e ≤ z.length ∧ z.length ≤ 100000 ∧ ∀ c ∈ cut (L z) s.toNat e.toNat, isDig c = true) ∧ ∀ p H1, H p = none → Same H H1 → IsTok H1 p (numTok (L z) s.toNat e.toNat) → Q (.ref p) H1
  | _ => False
theorem ok_number_token (A : At K mg "number_token" "number_token" s_number_token ["text", "start", "stop"]) (T : Txt K mg) : Has P w K mg base CX0 "number_token" 1 ["text", "start", "stop"] spNumber := by
  have Sc := sc_number_token
  refine has_of A Sc (fun vs H Q E h => ?_) (fun cdv f A outer s H vs Q E hr h => ?_)
  · unfold spNumber at h; split at h; rfl; cases h
  · unfold spNumber at h
    split at h
    · rename_i z st e
      obtain ⟨⟨⟨h0, h1⟩, h2, h3, h4⟩, k⟩ := h
      obtain ⟨l, rfl⟩ : ∃ l, z = S l := ⟨_, (S_L z).symm⟩
      obtain ⟨i, rfl⟩ := Int.eq_ofNat_of_zero_le h0
      obtain ⟨j, rfl⟩ := Int.eq_ofNat_of_zero_le (Int.le_trans h0 h1)
      rw [L_S, Int.toNat_natCast, Int.toNat_natCast] at k h4
      rw [S_len] at h2 h3
      refine ⟨_, (pss_cons (ps_set (i := 3) Sc.nd rfl (.inl rfl) (fe_bm PySem.F.plainAttrs_str PySem.F.slot_str_lstrip PySem.F.type_str_lstrip isStr_ty mt_fLstripC (pe_slice sl_fx (fe_var 0) (po_some (fe_var 1)) (po_some (fe_var 2))) (pa_cons pe_str pa_nil)))
      (pss_cons (ps_if (pt_cmpR op_fGt (pe_callB call_fLen (by rfl) T.no_len (by decide +kernel) (pa_cons (fe_var 3) pa_nil)) (fe_gint (by rfl) T.g_MOST_DIGITS) (nomark _)) (pss_one (ps_ret (fe_tup (pa_cons pe_str (pa_cons (fe_var 1) (pa_cons pe_str pa_nil)))))) pss_nil)
      (pss_one (ps_ret (fe_tup (pa_cons pe_str (pa_cons (fe_var 1) (pa_cons (pe_callTy call_fInt (by rfl) T.no_int (by decide +kernel) (pa_cons (pe_op op_fAdd pe_str (fe_var 3)) pa_nil)) pa_nil)))))))), ?_⟩
      walk_at "fx0"
      walk_at "fx"
      have hcl : (cut l i j).length ≤ l.length := by unfold cut; rw [List.length_take, List.length_drop]; omega
      have e0 : Str.ofString "0" = S [48] := by decide +kernel
      rw [cut_S l (by omega) (by omega), e0, lstrip_zero]
      have hdl : ((cut l i j).dropWhile (· == 48)).length ≤ (cut l i j).length := (List.dropWhile_sublist _).length_le
      have hdd : ∀ c ∈ (cut l i j).dropWhile (· == 48), isDig c = true := fun c hc => h4 c ((List.dropWhile_sublist _).subset hc)
      unfold numTok at k
      generalize (cut l i j).dropWhile (· == 48) = ds at k hdl hdd
      refine ⟨len_line (by omega), len_line (by rw [S_len]; omega), ?_⟩
      refine ifs_ ?_
      walk_at "fx"
      refine ⟨len_line (by omega), ?_⟩
      by_cases hl : 300 < ds.length
      · rw [if_pos hl] at k
        rw [if_pos (by omega)]
        exact k
      · rw [if_neg hl] at k
        rw [if_neg (by omega)]
        rw [S_app]
        have e5 : PySem.intText? (S (48 :: ds)) = some ((value (48 :: ds) : Nat) : Int) := by
          refine PySem.intText_digits (x := S (48 :: ds)) ?_ (by simp [S]) (by rw [S_len, List.length_cons]; omega)
          intro c hc
          rw [S_cps] at hc
          rcases List.mem_cons.mp hc with rfl | hc
          · decide
          · have := hdd c hc
            unfold isDig at this
            simpa using this
        refine ⟨len_line (by omega), _, e5, by rw [S_len, List.length_append, List.length_singleton]; omega, ?_⟩
        exact k
    · cases h
theorem str_q : Str.ofString "\"" = S [34] := by decide +kernel
theorem str_bs : Str.ofString "\\" = S [92] := by decide +kernel
theorem str_n : Str.ofString "n" = S [110] := by decide +kernel
theorem str_bl : Str.ofString " " = S [32] := by decide +kernel
theorem inV2 (a b c : Str) : inV (.str a) [.str b, .str c] = (decide (a = b) || decide (a = c)) := by
  rw [show ([.str b, .str c] : List V) = ([b, c] : List Str).map V.str from rfl, inV_words, Bool.eq_iff_iff]
  simp
def spEsc : Sp := fun vs H Q _ => match vs with
  | [.str z] => ∃ c, L z = [c] ∧ ∀ H1, Same H H1 → Q (match esc c with | some e => .str (S [e]) | none => .non) H1
  | _ => False
theorem ok_escaped (A : At K mg "escaped" "escaped" s_escaped ["char"]) (T : Txt K mg) : Has P w K mg base CX0 "escaped" 1 ["char"] spEsc := by
  have Sc := sc_escaped
  refine has_of A Sc (fun vs H Q E h => ?_) (fun cdv f A outer s H vs Q E hr h => ?_)
  · unfold spEsc at h; split at h; rfl; cases h
  · unfold spEsc at h
    split at h
    · rename_i z
      obtain ⟨c, hz, k⟩ := h
      obtain ⟨l, rfl⟩ : ∃ l, z = S l := ⟨_, (S_L z).symm⟩
      rw [L_S] at hz
      subst hz
      refine ⟨_, (pss_cons (ps_if (pt_cmpR (op_fEq hr.units) (fe_var 0) pe_str (nomark _)) (pss_one (ps_ret pe_str)) pss_nil)
      (pss_cons (ps_if (pt_cmpR op_fIn (fe_var 0) (fe_tup (pa_cons pe_str (pa_cons pe_str pa_nil))) (by with_unfolding_all rfl)) (pss_one (ps_ret (fe_var 0))) pss_nil)
      (pss_one (ps_ret pe_non)))), ?_⟩
      walk_at "fx0"
      walk_at "fx"
      refine ifs_ ?_
      walk_at "fx"
      simp only [str_n, str_q, str_bs, str_nl, one_ne]
      unfold esc at k
      by_cases h1 : c = 110
      · rw [if_pos h1] at k ⊢
        exact k H (Same.refl _)
      · rw [if_neg h1] at k ⊢
        refine ifs_ ?_
        walk_at "fx"
        intro p H1 np sm ep
        refine ⟨_, rl_t ep, rfl, ?_⟩
        rw [inV2]
        simp only [one_ne]
        have k := k H1 sm
        by_cases h2 : c = 34
        · subst h2
          exact k
        · by_cases h3 : c = 92
          · subst h3
            exact k
          · rw [if_neg h2, if_neg h3] at k
            rw [if_neg (by simp [h2, h3])]
            exact k
    · cases h
def spQuo : Sp := fun vs H Q _ => match vs with
  | [.str z, .int s] => (0 ≤ s ∧ s < z.length ∧ z.length ≤ 100000) ∧ ∀ p q H1, H p = none → Same H H1 → IsTok H1 q (quo s.toNat ((L z).drop (s.toNat + 1)) (s.toNat + 1) []).1 →
      H1 p = some (.tup [.ref q, .int (((quo s.toNat ((L z).drop (s.toNat + 1)) (s.toNat + 1) []).2 : Nat) : Int)]) → Q (.ref p) H1
  | _ => False
structure QInv (H0 : Hp) (l : List Nat) (st : Nat) (o : Addr) (R : Tk.Tok × Nat) (m : Nat) (σ : L2.St) (H : Hp) : Prop where
  ex : ∃ (i : Nat) (acc : List Nat) (v : Option V), σ = [some (.str (S l)), some (.int (st : Int)), some (.ref o), some (.int (i : Int)), v] ∧ i ≤ l.length ∧ m = l.length - i ∧ acc.length ≤ i ∧ Same H0 H ∧ H o = some (.lst (acc.map fun c => .str (S [c]))) ∧
    R = quo st (l.drop i) i acc
theorem ok_quoted (A : At K mg "quoted" "quoted" s_quoted ["text", "start"]) (T : Txt K mg) (H_is_character : Has P w K mg base CX0 "is_character" 1 ["char"] spIsCh) (H_escaped : Has P w K mg base CX0 "escaped" 1 ["char"] spEsc) :
    Has P w K mg base CX0 "quoted" 2 ["text", "start"] spQuo := by
  have Sc := sc_quoted
  refine has_of A Sc (fun vs H Q E h => ?_) (fun cdv f A outer s H vs Q E hr h => ?_)
  · unfold spQuo at h; split at h; rfl; cases h
  · unfold spQuo at h
    split at h
    · rename_i z st
      obtain ⟨⟨h0, h1, h2⟩, k⟩ := h
      obtain ⟨l, rfl⟩ : ∃ l, z = S l := ⟨_, (S_L z).symm⟩
      obtain ⟨n, rfl⟩ := Int.eq_ofNat_of_zero_le h0
      rw [L_S, Int.toNat_natCast] at k
      rw [S_len] at h1 h2
      generalize hR : quo n (l.drop (n + 1)) (n + 1) [] = R at k
      refine ⟨_, (pss_cons (ps_set (i := 2) Sc.nd rfl (.inl rfl) (fe_lst pa_nil))
      (pss_cons (ps_set (i := 3) Sc.nd rfl (.inl rfl) (pe_op op_fAdd (fe_var 1) pe_int))
      (pss_cons (ps_while PassesOwn.never (PW.pt (pw_and (pt_cmpR op_fLt (fe_var 3) (pe_callB call_fLen (by rfl) T.no_len (by decide +kernel) (pa_cons (fe_var 0) pa_nil)) (nomark _)) (pw_and1 (pt_cmpR op_fNotIn (pe_ix ix_fx (fe_var 0) (fe_var 3) (fun _ _ => rfl)) (fe_tup (pa_cons pe_str (pa_cons pe_str pa_nil))) (by with_unfolding_all rfl))))) (pss_cons (ps_set (i := 4) Sc.nd rfl (.inl rfl) (pe_ix ix_fx (fe_var 0) (fe_var 3) (fun _ _ => rfl)))
      (pss_cons (ps_if (pt_not (pt_val (fe_call H_is_character (hr.mono (by walk_at "rm")) (by rfl) pass0 (pa_cons (fe_var 4) pa_nil)))) (pss_one (ps_ret (fe_tup (pa_cons (fe_tup (pa_cons pe_str (pa_cons (fe_var 3) (pa_cons pe_str pa_nil)))) (pa_cons (fe_var 3) pa_nil))))) pss_nil)
      (pss_cons (ps_if (pt_cmpR (op_fEq hr.units) (fe_var 4) pe_str (nomark _)) (pss_cons (ps_if (pt_cmpR (op_fEq hr.units) (pe_op op_fAdd (fe_var 3) pe_int) (pe_callB call_fLen (by rfl) T.no_len (by decide +kernel) (pa_cons (fe_var 0) pa_nil)) (nomark _)) (pss_one ps_break) pss_nil)
      (pss_cons (ps_set (i := 4) Sc.nd rfl (.inl rfl) (fe_call H_escaped (hr.mono (by walk_at "rm")) (by rfl) pass0 (pa_cons (pe_ix ix_fx (fe_var 0) (pe_op op_fAdd (fe_var 3) pe_int) (fun _ _ => rfl)) pa_nil)))
      (pss_cons (ps_if (pt_cmpR op_fIsN (fe_var 4) pe_non (nomark _)) (pss_one (ps_ret (fe_tup (pa_cons (fe_tup (pa_cons pe_str (pa_cons (fe_var 3) (pa_cons pe_str pa_nil)))) (pa_cons (fe_var 3) pa_nil))))) pss_nil)
      (pss_one (ps_aug (i := 3) Sc.nd rfl (.inl rfl) pe_int ip_fAdd))))) pss_nil)
      (pss_cons (ps_expr (fe_bm PySem.F.plainAttrs_list PySem.F.slot_list_append PySem.F.type_list_append isLst_ty mt_fAppend (fe_var 2) (pa_cons (fe_var 4) pa_nil)))
      (pss_one (ps_aug (i := 3) Sc.nd rfl (.inl rfl) pe_int ip_fAdd)))))))
      (pss_cons (ps_if (PW.pt (pw_and (pt_cmpR op_fLt (fe_var 3) (pe_callB call_fLen (by rfl) T.no_len (by decide +kernel) (pa_cons (fe_var 0) pa_nil)) (nomark _)) (pw_and1 (pt_cmpR (op_fEq hr.units) (pe_ix ix_fx (fe_var 0) (fe_var 3) (fun _ _ => rfl)) pe_str (nomark _))))) (pss_one (ps_ret (fe_tup (pa_cons (fe_tup (pa_cons pe_str (pa_cons (fe_var 1) (pa_cons (fe_bm PySem.F.plainAttrs_str PySem.F.slot_str_join PySem.F.type_str_join isStr_ty mt_fJoin pe_str (pa_cons (fe_var 2) pa_nil)) pa_nil)))) (pa_cons (pe_op op_fAdd (fe_var 3) pe_int) pa_nil))))) pss_nil)
      (pss_one (ps_ret (fe_tup (pa_cons (fe_tup (pa_cons pe_str (pa_cons (fe_var 1) (pa_cons pe_str pa_nil)))) (pa_cons (fe_var 3) pa_nil))))))))), ?_⟩
      walk_at "fx0"
      walk_at "fx"
      intro o H1 no sm1 eo
      refine cut_ fun N0 hN0 => ?_
      have tail : ∀ {i c : Nat}, l[i]? = some c → l.drop i = c :: l.drop (i + 1) := fun {i c} h => by
        obtain ⟨hi, e⟩ := List.getElem?_eq_some_iff.mp h
        rw [List.drop_eq_getElem_cons hi, e]
      have after : ∀ (i : Nat) (acc : List Nat) (v : Option V) (H' : Hp), i ≤ l.length → acc.length ≤ i → Same H H' → H' o = some (.lst (acc.map fun c => .str (S [c]))) → R = quo n (l.drop i) i acc →
          (l[i]? = none ∨ l[i]? = some 10 ∨ l[i]? = some 34 ∨ (l[i]? = some 92 ∧ l[i + 1]? = none)) → N0 [some (.str (S l)), some (.int (n : Int)), some (.ref o), some (.int (i : Int)), v] H' := by
        intro i acc v H' hi ha sm eo' eR hx
        refine hN0 _ _ ?_
        clear hN0 N0
        walk_at "fx"
        refine ifs_ ?_
        walk_at "fx"
        refine ⟨len_line (by omega), ?_⟩
        have fault : R = ((Str.ofString "fault", n, V.str (Str.ofString "the text does not end")), i) → ∀ (p : Addr) (H2 : Hp), H' p = none → Same H' H2 → H2 p = some (HO.tup [V.str (Str.ofString "fault"), V.int (n : Int), V.str (Str.ofString "the text does not end")]) →
            ∀ (p_1 : Addr) (H2_1 : Hp), H2 p_1 = none → Same H2 H2_1 → H2_1 p_1 = some (HO.tup [V.ref p, V.int (i : Int)]) → Q (V.ref p_1) H2_1 := by
          intro e q H2 nq sq eq p H3 np sp ep
          rw [e] at k
          exact k p q H3 (sm.free (sq.free np)) ((sm.trans sq).trans sp) (sp _ _ eq) ep
        by_cases hlt : i < l.length
        · rw [if_pos (by omega)]
          obtain ⟨c, hc, ec⟩ := getI hlt
          refine ⟨len_line (by omega), c, ec, ?_⟩
          simp only [str_q, S_one, one_ne]
          rw [tail hc] at eR
          by_cases h34 : c = 34
          · subst h34
            rw [if_pos rfl]
            refine ⟨acc.map fun c => S [c], ?_, ?_, ?_⟩
            · rw [List.map_map]
              exact rl_l eo'
            · rw [List.map_map]
              have : ∀ a : List Nat, (a.map ((fun x => x.length) ∘ fun c => S [c])).sum = a.length := by
                intro a
                induction a with
                | nil => rfl
                | cons x r ih => rw [List.map_cons, List.sum_cons, ih, List.length_cons]; show 1 + _ = _; omega
              rw [this]
              have : (Str.ofString "").length = 0 := by decide +kernel
              rw [this]; omega
            · have e0 : Str.ofString "" = S [] := by decide +kernel
              rw [e0, join_ones]
              intro q H2 nq sq eq p H3 np sp ep
              have e : R = ((Str.ofString "text", n, V.str (S acc)), i + 1) := by rw [eR]; unfold quo; rw [if_neg (by decide), if_pos rfl]
              rw [e] at k
              exact k p q H3 (sm.free (sq.free np)) ((sm.trans sq).trans sp) (sp _ _ eq) ep
          · rw [if_neg h34]
            refine fault ?_
            rcases hx with hx | hx | hx | ⟨hx, hx2⟩
            · rw [hc] at hx; cases hx
            · rw [hc] at hx; cases hx
              rw [eR]; unfold quo; rw [if_pos rfl]
            · rw [hc] at hx; cases hx
              exact absurd rfl h34
            · rw [hc] at hx; cases hx
              rw [eR, List.drop_eq_nil_of_le (List.getElem?_eq_none_iff.mp hx2)]
              rfl
        · rw [if_neg (by omega)]
          refine fault ?_
          rw [eR, List.drop_eq_nil_of_le (by omega)]
          rfl
      clear hN0
      refine ⟨QInv H l n o R, ⟨_, ⟨n + 1, [], none, rfl, by omega, rfl, by simp, sm1, eo, hR.symm⟩⟩, ?_⟩
      rintro m σ H' ⟨i, acc, v, rfl, hi, rfl, ha, sm, eo', eR⟩
      walk_at "fx"
      refine ⟨len_line (by omega), ?_⟩
      by_cases hlt : i < l.length
      · rw [if_pos (by omega)]
        obtain ⟨c, hc, ec⟩ := getI hlt
        refine ⟨len_line (by omega), c, ec, ?_⟩
        intro p H2 np sm2 ep
        have eo2 := sm2 _ _ eo'
        refine ⟨_, rl_t ep, rfl, ?_⟩
        rw [inV2]
        simp only [str_q, str_nl, S_one, one_ne]
        by_cases h10 : c = 10
        · subst h10
          rw [if_neg (by simp)]
          exact after i acc v H2 hi ha (sm.trans sm2) eo2 eR (.inr (.inl hc))
        by_cases h34 : c = 34
        · subst h34
          rw [if_neg (by simp)]
          exact after i acc v H2 hi ha (sm.trans sm2) eo2 eR (.inr (.inr (.inl hc)))
        rw [if_pos (by simp [h10, h34])]
        refine ⟨_, fun _ _ h => h, len_line (by omega), c, ec, ?_⟩
        rw [tail hc] at eR
        refine cut_ fun N hN => ifs_ ?_
        walk_at "fx"
        refine ⟨c, rfl, ?_⟩
        walk_at "fx"
        by_cases hch : isCh c = false
        · rw [if_pos hch]
          intro q H3 nq sq eq p4 H4 np4 sp4 ep4
          have e : R = ((Str.ofString "fault", i, V.str (Str.ofString "this character is not allowed")), i) := by
            rw [eR]; unfold quo; rw [if_neg h10, if_neg h34, if_pos hch]
          rw [e] at k
          have sH := (sm.trans sm2)
          exact k p4 q H4 (sH.free (sq.free np4)) ((sH.trans sq).trans sp4) (sp4 _ _ eq) ep4
        · rw [if_neg hch]
          refine hN _ _ ?_
          clear hN N
          walk_at "fx"
          have sH := (sm.trans sm2)
          refine cut_ fun N hN => ifs_ ?_
          walk_at "fx"
          simp only [str_bs, S_one, one_ne]
          have next : ∀ (d j : Nat) (H3 : Hp), i ≤ j → j + 1 ≤ l.length → Same H2 H3 → R = quo n (l.drop (j + 1)) (j + 1) (acc ++ [d]) → N [some (.str (S l)), some (.int (n : Int)), some (.ref o), some (.int (j : Int)), some (.str (S [d]))] H3 := by
            intro d j H3 hij hj s3 eR'
            refine hN _ _ ?_
            have eo3 := s3 _ _ eo2
            walk_at "fx"
            simp only [eo3]
            refine ⟨trivial, ?_, l.length - (j + 1), by omega, ⟨j + 1, acc ++ [d], _, rfl, by omega, rfl, by rw [List.length_append]; simp; omega, same_mut (sH.trans s3) no, ?_, eR'⟩⟩
            · rw [List.length_map]; exact len_line' (by omega)
            · rw [upd_same, List.map_append]; rfl
          by_cases h92 : c = 92
          · subst h92
            rw [if_pos rfl]
            refine cut_ fun N1 hN1 => ifs_ ?_
            walk_at "fx"
            refine ⟨len_line (by omega), ?_⟩
            by_cases hend : i + 1 = l.length
            · rw [if_pos (by omega)]
              refine after i acc _ H2 hi ha sH eo2 ?_ (.inr (.inr (.inr ⟨hc, List.getElem?_eq_none_iff.mpr (by omega)⟩)))
              rw [tail hc]; exact eR
            · rw [if_neg (by omega)]
              refine hN1 _ _ ?_
              clear hN1 N1
              walk_at "fx"
              obtain ⟨d, hd, ed⟩ := getI (l := l) (i := i + 1) (by omega)
              refine ⟨len_line (by omega), d, ed, ?_⟩
              refine ⟨d, rfl, fun H3 s3 => ?_⟩
              walk_at "fx"
              refine cut_ fun N2 hN2 => ifs_ ?_
              walk_at "fx"
              rw [tail hd] at eR
              cases he : esc d with
              | none =>
                walk_at "fx"
                intro q H4 nq sq eq p4 H5 np4 sp4 ep4
                have e : R = ((Str.ofString "fault", i, V.str (Str.ofString "the escape is not known")), i) := by
                  rw [eR]; unfold quo; rw [if_neg h10, if_neg h34, if_neg hch, if_pos rfl]; simp only [he]
                rw [e] at k
                have sK := sH.trans s3
                exact k p4 q H5 (sK.free (sq.free np4)) ((sK.trans sq).trans sp4) (sp4 _ _ eq) ep4
              | some x =>
                walk_at "fx"
                simp only [reduceCtorEq]
                walk_at "fx"
                refine hN2 _ _ ?_
                clear hN2 N2
                walk_at "fx"
                refine next x (i + 1) H3 (by omega) (by omega) s3 ?_
                rw [eR]
                conv => lhs; unfold quo
                rw [if_neg h10, if_neg h34, if_neg hch, if_pos rfl]
                simp only [he]
          · rw [if_neg h92]
            refine next c i H2 (Nat.le_refl _) (by omega) (Same.refl _) ?_
            · rw [eR]
              conv => lhs; unfold quo
              rw [if_neg h10, if_neg h34, if_neg hch, if_neg h92]
      · rw [if_neg (by omega)]
        exact after i acc v H' hi ha sm eo' eR (.inl (List.getElem?_eq_none_iff.mpr (by omega)))
    · cases h
theorem inV_list (x : Str) (ws : List Str) (vs : List V) (h : vs = ws.map V.str) : inV (.str x) vs = decide (x ∈ ws) := by rw [h]; exact inV_words x ws
def spTokAt : Sp := fun vs H Q _ => match vs with
  | [.str z, .int s] => (0 ≤ s ∧ s < z.length ∧ z.length ≤ 100000) ∧ ∀ p q H1, H p = none → Same H H1 → IsTok H1 q (tokenAt (L z) s.toNat).1 → H1 p = some (.tup [.ref q, .int (((tokenAt (L z) s.toNat).2 : Nat) : Int)]) → Q (.ref p) H1
  | _ => False
theorem let_iff (c : Nat) : (c ∈ LETTERS.cps.toList) ↔ isLet c = true := by rw [← let_mem, decide_eq_true_eq]; exact Iff.rfl
theorem dig_iff (c : Nat) : (c ∈ DIGITS.cps.toList) ↔ isDig c = true := by rw [← dig_mem, decide_eq_true_eq]; exact Iff.rfl
theorem sg_iff (c : Nat) : (c ∈ SINGLE.cps.toList) ↔ isSg c = true := by rw [← sg_mem, decide_eq_true_eq]; exact Iff.rfl
theorem cut_one {l : List Nat} {i c : Nat} (h : l[i]? = some c) (h2 : l.length ≤ i + 1) : cut l i (i + 2) = [c] := by
  obtain ⟨hi, e⟩ := List.getElem?_eq_some_iff.mp h
  unfold cut
  rw [List.drop_eq_getElem_cons hi, e, List.drop_eq_nil_of_le h2, List.take_of_length_le (by simp)]
theorem cut_two {l : List Nat} {i c d : Nat} (h : l[i]? = some c) (h2 : l[i + 1]? = some d) : cut l i (i + 2) = [c, d] := by
  obtain ⟨hi, e⟩ := List.getElem?_eq_some_iff.mp h
  obtain ⟨hi2, e2⟩ := List.getElem?_eq_some_iff.mp h2
  unfold cut
  have e3 : i + 2 - i = 2 := by omega
  rw [List.drop_eq_getElem_cons hi, e, List.drop_eq_getElem_cons hi2, e2, e3]
  rfl
theorem cutS_any (l : List Nat) (i : Nat) (h : i ≤ l.length) : cutS (S l) (some (i : Int)) (some ((i : Int) + 2)) = S (cut l i (i + 2)) := by
  unfold cutS
  have e1 : HT.sIx (S l).length 0 (some (i : Int)) = min i (S l).length := HT.sIx_nat _ _ _
  have e2 : HT.sIx (S l).length (S l).length (some ((i : Int) + 2)) = min (i + 2) (S l).length := HT.sIx_nat _ _ (i + 2)
  rw [e1, e2, S_len, S_cps]
  have q1 : min i l.length = i := by omega
  rw [q1]
  unfold cut
  show S _ = S _
  congr 1
  by_cases h2 : i + 2 ≤ l.length
  · rw [Nat.min_eq_left h2]
  · rw [Nat.min_eq_right (by omega), List.take_of_length_le (l := l.drop i) (i := l.length - i) (Nat.le_of_eq List.length_drop), List.take_of_length_le (l := l.drop i) (i := i + 2 - i) (by rw [List.length_drop]; omega)]
theorem dbl_in (c d : Nat) : (S [c, d] ∈ ([Str.ofString "==", Str.ofString "!=", Str.ofString "<=", Str.ofString ">="] : List Str)) ↔ isDbl c d = true := by
  have e1 : Str.ofString "==" = S [61, 61] := by decide +kernel
  have e2 : Str.ofString "!=" = S [33, 61] := by decide +kernel
  have e3 : Str.ofString "<=" = S [60, 61] := by decide +kernel
  have e4 : Str.ofString ">=" = S [62, 61] := by decide +kernel
  have q : ∀ a b : Nat, S [c, d] = S [a, b] ↔ c = a ∧ d = b := fun a b => ⟨fun h => by have := S_inj h; simpa using this, fun h => by rw [h.1, h.2]⟩
  rw [e1, e2, e3, e4]
  unfold isDbl
  simp only [List.mem_cons, List.not_mem_nil, or_false, q, Bool.and_eq_true, decide_eq_true_eq]
  omega
theorem dbl_one (c : Nat) : ¬ (S [c] ∈ ([Str.ofString "==", Str.ofString "!=", Str.ofString "<=", Str.ofString ">="] : List Str)) := by
  intro h
  have : (S [c]).length = 2 := by
    have all : ∀ x ∈ ([Str.ofString "==", Str.ofString "!=", Str.ofString "<=", Str.ofString ">="] : List Str), x.length = 2 := by decide +kernel
    exact all _ h
  rw [S_len] at this
  simp at this
theorem stop_congr {p q : Nat → Bool} (h : ∀ c, p c = q c) (l : List Nat) (i : Nat) : stop p l i = stop q l i := by rw [show p = q from funext h]
theorem ok_token_at (A : At K mg "token_at" "token_at" s_token_at ["text", "at"]) (T : Txt K mg) (H_run_stop : Has P w K mg base CX0 "run_stop" 1 ["text", "start", "chars"] spRun) (H_word_or_name : Has P w K mg base CX0 "word_or_name" 1 ["text", "start", "stop"] spWord)
    (H_number_token : Has P w K mg base CX0 "number_token" 1 ["text", "start", "stop"] spNumber) (H_quoted : Has P w K mg base CX0 "quoted" 2 ["text", "start"] spQuo) : Has P w K mg base CX0 "token_at" 3 ["text", "at"] spTokAt := by
  have Sc := sc_token_at
  refine has_of A Sc (fun vs H Q E h => ?_) (fun cdv f A outer s H vs Q E hr h => ?_)
  · unfold spTokAt at h; split at h; rfl; cases h
  · unfold spTokAt at h
    split at h
    · rename_i z st
      obtain ⟨⟨h0, h1, h2⟩, k⟩ := h
      obtain ⟨l, rfl⟩ : ∃ l, z = S l := ⟨_, (S_L z).symm⟩
      obtain ⟨i, rfl⟩ := Int.eq_ofNat_of_zero_le h0
      rw [L_S, Int.toNat_natCast] at k
      rw [S_len] at h1 h2
      generalize hR : tokenAt l i = R at k
      refine ⟨_, (pss_cons (ps_set (i := 2) Sc.nd rfl (.inl rfl) (pe_ix ix_fx (fe_var 0) (fe_var 1) (fun _ _ => rfl)))
      (pss_cons (ps_if (pt_cmpR op_fIn (fe_var 2) (fe_gstr (by rfl) T.g_LETTERS) (by with_unfolding_all rfl)) (pss_cons (ps_set (i := 3) Sc.nd rfl (.inl rfl) (fe_call H_run_stop (hr.mono (by walk_at "rm")) (by rfl) pass0 (pa_cons (fe_var 0) (pa_cons (fe_var 1) (pa_cons (pe_op op_fAdd (fe_gstr (by rfl) T.g_LETTERS) (fe_gstr (by rfl) T.g_DIGITS)) pa_nil)))))
      (pss_one (ps_ret (fe_tup (pa_cons (fe_call H_word_or_name (hr.mono (by walk_at "rm")) (by rfl) pass0 (pa_cons (fe_var 0) (pa_cons (fe_var 1) (pa_cons (fe_var 3) pa_nil)))) (pa_cons (fe_var 3) pa_nil)))))) pss_nil)
      (pss_cons (ps_if (pt_cmpR op_fIn (fe_var 2) (fe_gstr (by rfl) T.g_DIGITS) (by with_unfolding_all rfl)) (pss_cons (ps_set (i := 3) Sc.nd rfl (.inl rfl) (fe_call H_run_stop (hr.mono (by walk_at "rm")) (by rfl) pass0 (pa_cons (fe_var 0) (pa_cons (fe_var 1) (pa_cons (fe_gstr (by rfl) T.g_DIGITS) pa_nil)))))
      (pss_one (ps_ret (fe_tup (pa_cons (fe_call H_number_token (hr.mono (by walk_at "rm")) (by rfl) pass0 (pa_cons (fe_var 0) (pa_cons (fe_var 1) (pa_cons (fe_var 3) pa_nil)))) (pa_cons (fe_var 3) pa_nil)))))) pss_nil)
      (pss_cons (ps_if (pt_cmpR (op_fEq hr.units) (fe_var 2) pe_str (nomark _)) (pss_one (ps_ret (fe_call H_quoted (hr.mono (by walk_at "rm")) (by rfl) pass0 (pa_cons (fe_var 0) (pa_cons (fe_var 1) pa_nil))))) pss_nil)
      (pss_cons (ps_if (pt_cmpR op_fIn (pe_slice sl_fx (fe_var 0) (po_some (fe_var 1)) (po_some (pe_op op_fAdd (fe_var 1) pe_int))) (fe_gtup (by rfl) T.g_DOUBLE_SIGNS) (by with_unfolding_all rfl)) (pss_one (ps_ret (fe_tup (pa_cons (fe_tup (pa_cons pe_str (pa_cons (fe_var 1) (pa_cons (pe_slice sl_fx (fe_var 0) (po_some (fe_var 1)) (po_some (pe_op op_fAdd (fe_var 1) pe_int))) pa_nil)))) (pa_cons (pe_op op_fAdd (fe_var 1) pe_int) pa_nil))))) pss_nil)
      (pss_cons (ps_if (pt_cmpR op_fIn (fe_var 2) (fe_gstr (by rfl) T.g_SINGLE_SIGNS) (by with_unfolding_all rfl)) (pss_one (ps_ret (fe_tup (pa_cons (fe_tup (pa_cons pe_str (pa_cons (fe_var 1) (pa_cons (fe_var 2) pa_nil)))) (pa_cons (pe_op op_fAdd (fe_var 1) pe_int) pa_nil))))) pss_nil)
      (pss_one (ps_ret (fe_tup (pa_cons (fe_tup (pa_cons pe_str (pa_cons (fe_var 1) (pa_cons pe_str pa_nil)))) (pa_cons (pe_op op_fAdd (fe_var 1) pe_int) pa_nil))))))))))), ?_⟩
      walk_at "fx0"
      walk_at "fx"
      obtain ⟨c, hc, ec⟩ := getI (l := l) (i := i) (by omega)
      refine ⟨len_line (by omega), c, ec, ?_⟩
      unfold tokenAt at hR
      rw [hc] at hR
      dsimp only at hR
      refine ifs_ ?_
      walk_at "fx"
      simp only [let_iff]
      by_cases hl : isLet c = true
      · rw [if_pos hl] at hR ⊢
        refine ⟨by decide +kernel, ?_⟩
        refine ⟨⟨by omega, by rw [S_len]; omega, by rw [S_len]; omega⟩, ?_⟩
        rw [L_S, Int.toNat_natCast, stop_congr al_mem]
        have g1 : i ≤ stop isAl l i := stop_ge
        have g2 : stop isAl l i ≤ l.length := stop_le (by omega)
        refine ⟨⟨⟨by omega, by omega⟩, by rw [S_len]; omega, by rw [S_len]; omega⟩, fun q H1 nq sq tq => ?_⟩
        rw [L_S, Int.toNat_natCast, Int.toNat_natCast] at tq
        intro p H2 np sp ep
        subst hR
        exact k p q H2 (sq.free np) (sq.trans sp) (sp _ _ tq) ep
      · rw [if_neg hl] at hR ⊢
        refine ifs_ ?_
        walk_at "fx"
        simp only [dig_iff]
        by_cases hd : isDig c = true
        · rw [if_pos hd] at hR ⊢
          refine ⟨⟨by omega, by rw [S_len]; omega, by rw [S_len]; omega⟩, ?_⟩
          rw [L_S, Int.toNat_natCast, stop_congr dig_mem]
          have g1 : i ≤ stop isDig l i := stop_ge
          have g2 : stop isDig l i ≤ l.length := stop_le (by omega)
          refine ⟨⟨⟨by omega, by omega⟩, by rw [S_len]; omega, by rw [S_len]; omega, ?_⟩, fun q H1 nq sq tq => ?_⟩
          · rw [L_S, Int.toNat_natCast, Int.toNat_natCast]
            intro x hx
            unfold cut stop at hx
            rw [Nat.add_sub_cancel_left] at hx
            have := List.takeWhile_prefix isDig (l := l.drop i)
            rw [← List.prefix_iff_eq_take.mp this] at hx
            exact List.all_eq_true.mp List.all_takeWhile x hx
          · rw [L_S, Int.toNat_natCast, Int.toNat_natCast] at tq
            intro p H2 np sp ep
            subst hR
            exact k p q H2 (sq.free np) (sq.trans sp) (sp _ _ tq) ep
        · rw [if_neg hd] at hR ⊢
          walk_at "fx"
          refine ifs_ ?_
          walk_at "fx"
          simp only [str_q, S_one, one_ne]
          by_cases hq : c = 34
          · rw [if_pos hq] at hR ⊢
            refine ⟨⟨by omega, by rw [S_len]; omega, by rw [S_len]; omega⟩, ?_⟩
            rw [L_S, Int.toNat_natCast]
            subst hR
            exact k
          · rw [if_neg hq] at hR ⊢
            walk_at "fx"
            refine ifs_ ?_
            walk_at "fx"
            refine ⟨len_line (by omega), fun aD hD => ?_⟩
            rw [cutS_any l i (by omega)]
            have eD : ∀ x : Str, inV (.str x) [V.str (Str.ofString "=="), V.str (Str.ofString "!="), V.str (Str.ofString "<="), V.str (Str.ofString ">=")] = decide (x ∈ ([Str.ofString "==", Str.ofString "!=", Str.ofString "<=", Str.ofString ">="] : List Str)) := fun x => inV_list x _ _ rfl
            have split2 : (dblAt l i c = true ∧ S (cut l i (i + 2)) ∈ ([Str.ofString "==", Str.ofString "!=", Str.ofString "<=", Str.ofString ">="] : List Str)) ∨
                (dblAt l i c = false ∧ ¬ S (cut l i (i + 2)) ∈ ([Str.ofString "==", Str.ofString "!=", Str.ofString "<=", Str.ofString ">="] : List Str)) := by
              by_cases hlast : i + 1 < l.length
              · obtain ⟨d, hd2, _⟩ := getI (l := l) (i := i + 1) hlast
                have e : dblAt l i c = isDbl c d := by unfold dblAt; rw [hd2]
                rw [e, cut_two hc hd2, dbl_in]
                cases isDbl c d with
                | true => exact .inl ⟨rfl, rfl⟩
                | false => exact .inr ⟨rfl, by decide⟩
              · have e : dblAt l i c = false := by unfold dblAt; rw [List.getElem?_eq_none_iff.mpr (show l.length ≤ i + 1 by omega)]
                rw [e, cut_one hc (by omega)]
                exact .inr ⟨rfl, dbl_one c⟩
            refine ⟨_, .inr (hD H), rfl, ?_⟩
            rw [eD]
            rcases split2 with ⟨m1, m2⟩ | ⟨m1, m2⟩
            · rw [m1, if_pos rfl] at hR
              rw [decide_eq_true m2, if_pos rfl]
              refine ⟨len_line (by omega), ?_⟩
              intro q H1 nq sq tq p H2 np sp ep
              subst hR
              exact k p q H2 (sq.free np) (sq.trans sp) (sp _ _ tq) ep
            · rw [m1, if_neg (by decide)] at hR
              rw [decide_eq_false m2, if_neg (by decide)]
              refine ifs_ ?_
              walk_at "fx"
              simp only [sg_iff, S_one]
              by_cases hs : isSg c = true
              · rw [if_pos hs] at hR ⊢
                intro q H1 nq sq tq p H2 np sp ep
                subst hR
                exact k p q H2 (sq.free np) (sq.trans sp) (sp _ _ tq) ep
              · rw [if_neg hs] at hR ⊢
                walk_at "fx"
                intro q H1 nq sq tq p H2 np sp ep
                subst hR
                exact k p q H2 (sq.free np) (sq.trans sp) (sp _ _ tq) ep
    · cases h
/-- a list of tokens -/
structure TokList (H : Hp) (p : Addr) (ts : List Tk.Tok) : Prop where
  ex : ∃ as : List Addr, H p = some (.lst (as.map V.ref)) ∧ as.length = ts.length ∧ ∀ (i : Nat) (a : Addr) (t : Tk.Tok), as[i]? = some a → ts[i]? = some t → IsTok H a t
theorem TokList.app {H : Hp} {o a : Addr} {ts : List Tk.Tok} {t : Tk.Tok} {as : List Addr} (e1 : H o = some (.lst (as.map V.ref))) (e2 : as.length = ts.length) (e3 : ∀ (i : Nat) (a : Addr) (t : Tk.Tok), as[i]? = some a → ts[i]? = some t → IsTok H a t) (ht : IsTok H a t) :
    TokList (upd H o (.lst (as.map V.ref ++ [.ref a]))) o (ts ++ [t]) := by
  refine ⟨as ++ [a], ?_, by rw [List.length_append, List.length_append, e2]; rfl, ?_⟩
  · rw [upd_same, List.map_append]; rfl
  · intro j b u h1 h2
    by_cases hj : j < as.length
    · rw [List.getElem?_append_left hj] at h1
      rw [List.getElem?_append_left (by omega)] at h2
      have := e3 j b u h1 h2
      unfold IsTok at this ⊢
      rw [upd_ne (fun h => by subst h; rw [e1] at this; cases this)]
      exact this
    · have hj2 : j = as.length := by
        have := (List.getElem?_eq_some_iff.mp h1).1
        rw [List.length_append] at this
        simp at this
        omega
      subst hj2
      rw [List.getElem?_append_right (Nat.le_refl _), Nat.sub_self] at h1
      rw [List.getElem?_append_right (by omega), e2, Nat.sub_self] at h2
      cases h1
      cases h2
      unfold IsTok at ht ⊢
      rw [upd_ne (fun h => by subst h; rw [e1] at ht; cases ht)]
      exact ht
theorem same_tl {H H' : Hp} {o : Addr} {ts : List Tk.Tok} (s : Same H H') (h : TokList H o ts) : TokList H' o ts := by
  obtain ⟨as, e1, e2, e3⟩ := h.ex
  exact ⟨as, s _ _ e1, e2, fun j a t h1 h2 => s _ _ (e3 j a t h1 h2)⟩
def spToks : Sp := fun vs H Q _ => match vs with
  | [.str z] => z.length ≤ 100000 ∧ ∀ p H1 ts, H p = none → Same H H1 → TokList H1 p ts → Tks (L z) 0 ts → Q (.ref p) H1
  | _ => False
structure TInv (H0 : Hp) (l : List Nat) (o : Addr) (m : Nat) (σ : L2.St) (H : Hp) : Prop where
  ex : ∃ (i : Nat) (ts : List Tk.Tok) (v : Option V), σ = [some (.str (S l)), some (.ref o), some (.int (i : Int)), v] ∧ i ≤ l.length ∧ m = l.length - i ∧ ts.length ≤ i ∧ Same H0 H ∧ TokList H o ts ∧ ∀ us, Tks l i us → Tks l 0 (ts ++ us)
theorem ok_tokens_of (A : At K mg "tokens_of" "tokens_of" s_tokens_of ["text"]) (T : Txt K mg) (H_comment_stop : Has P w K mg base CX0 "comment_stop" 1 ["text", "start"] spCom) (H_token_at : Has P w K mg base CX0 "token_at" 3 ["text", "at"] spTokAt) :
    Has P w K mg base CX0 "tokens_of" 4 ["text"] spToks := by
  have Sc := sc_tokens_of
  refine has_of A Sc (fun vs H Q E h => ?_) (fun cdv f A outer s H vs Q E hr h => ?_)
  · unfold spToks at h; split at h; rfl; cases h
  · unfold spToks at h
    split at h
    · rename_i z
      obtain ⟨h2, k⟩ := h
      obtain ⟨l, rfl⟩ : ∃ l, z = S l := ⟨_, (S_L z).symm⟩
      rw [L_S] at k
      rw [S_len] at h2
      refine ⟨_, (pss_cons (ps_set (i := 1) Sc.nd rfl (.inl rfl) (fe_lst pa_nil))
      (pss_cons (ps_set (i := 2) Sc.nd rfl (.inl rfl) pe_int)
      (pss_cons (ps_while PassesOwn.never (pt_cmpR op_fLt (fe_var 2) (pe_callB call_fLen (by rfl) T.no_len (by decide +kernel) (pa_cons (fe_var 0) pa_nil)) (nomark _)) (pss_one (ps_if (pt_cmpR op_fIn (pe_ix ix_fx (fe_var 0) (fe_var 2) (fun _ _ => rfl)) (fe_tup (pa_cons pe_str (pa_cons pe_str pa_nil))) (by with_unfolding_all rfl)) (pss_one (ps_aug (i := 2) Sc.nd rfl (.inl rfl) pe_int ip_fAdd)) (pss_one (ps_if (pt_cmpR (op_fEq hr.units) (pe_slice sl_fx (fe_var 0) (po_some (fe_var 2)) (po_some (pe_op op_fAdd (fe_var 2) pe_int))) pe_str (nomark _)) (pss_one (ps_set (i := 2) Sc.nd rfl (.inl rfl) (fe_call H_comment_stop (hr.mono (by walk_at "rm")) (by rfl) pass0 (pa_cons (fe_var 0) (pa_cons (fe_var 2) pa_nil))))) (pss_cons (ps_asg (fe_call H_token_at (hr.mono (by walk_at "rm")) (by rfl) pass0 (pa_cons (fe_var 0) (pa_cons (fe_var 2) pa_nil))) (pg_tup (n := 2) rfl (pgs_cons (pg_name (i := 3) Sc.nd rfl (.inl rfl)) (pgs_cons (pg_name (i := 2) Sc.nd rfl (.inl rfl)) pgs_nil))))
      (pss_cons (ps_expr (fe_bm PySem.F.plainAttrs_list PySem.F.slot_list_append PySem.F.type_list_append isLst_ty mt_fAppend (fe_var 1) (pa_cons (fe_var 3) pa_nil)))
      (pss_one (ps_if (pt_cmpR (op_fEq hr.units) (pe_ix ix_fx (fe_var 3) pe_int (fun _ _ => rfl)) pe_str (nomark _)) (pss_one (ps_ret (fe_var 1))) pss_nil)))))))))
      (pss_cons (ps_expr (fe_bm PySem.F.plainAttrs_list PySem.F.slot_list_append PySem.F.type_list_append isLst_ty mt_fAppend (fe_var 1) (pa_cons (fe_tup (pa_cons pe_str (pa_cons (pe_callB call_fLen (by rfl) T.no_len (by decide +kernel) (pa_cons (fe_var 0) pa_nil)) (pa_cons pe_non pa_nil)))) pa_nil)))
      (pss_one (ps_ret (fe_var 1))))))), ?_⟩
      walk_at "fx0"
      walk_at "fx"
      intro o H1 no sm1 eo
      refine cut_ fun N0 hN0 => ?_
      refine ⟨TInv H l o, ⟨_, ⟨0, [], none, rfl, by omega, rfl, Nat.le_refl _, sm1, ⟨[], eo, rfl, fun i a t h => by simp at h⟩, fun us h => h⟩⟩, ?_⟩
      rintro m σ H' ⟨i, ts, v, rfl, hi, rfl, ht, sm, tl, hT⟩
      walk_at "fx"
      refine ⟨len_line (by omega), ?_⟩
      by_cases hlt : i < l.length
      · rw [if_pos (by omega)]
        obtain ⟨c, hc, ec⟩ := getI hlt
        refine ⟨_, fun _ _ h => h, ?_⟩
        refine ifs_ ?_
        walk_at "fx"
        refine ⟨len_line (by omega), c, ec, ?_⟩
        intro p H2 np sm2 ep
        refine ⟨_, rl_t ep, rfl, ?_⟩
        rw [inV2]
        simp only [str_bl, str_nl, S_one, one_ne]
        have sH := sm.trans sm2
        have tl2 : TokList H2 o ts := same_tl sm2 tl
        by_cases hb : c = 32 ∨ c = 10
        · rw [if_pos (by simpa using hb)]
          exact ⟨l.length - (i + 1), by omega, ⟨i + 1, ts, v, rfl, by omega, rfl, by omega, sH, tl2, fun us h => hT us (.blank hc hb h)⟩⟩
        · rw [if_neg (by simpa using hb)]
          refine ifs_ ?_
          walk_at "fx"
          refine ⟨len_line (by omega), ?_⟩
          rw [cutS_any l i (by omega)]
          have es : Str.ofString "//" = S [47, 47] := by decide +kernel
          rw [es]
          by_cases hcm : c = 47 ∧ l[i + 1]? = some 47
          · obtain ⟨rfl, hd⟩ := hcm
            rw [cut_two hc hd, if_pos rfl]
            refine ⟨⟨by omega, by rw [S_len]; omega, by rw [S_len]; omega⟩, ?_⟩
            rw [L_S, Int.toNat_natCast]
            walk_at "fx"
            have g1 : stop isNl l i ≤ l.length := stop_le (by omega)
            have g2 : i + 1 ≤ stop isNl l i := by rw [stop_step hc rfl]; exact stop_ge
            exact ⟨l.length - stop isNl l i, by omega, ⟨stop isNl l i, ts, v, rfl, by omega, rfl, by omega, sH, tl2, fun us h => hT us (.rem hc hd h)⟩⟩
          · have hne : ¬ (S (cut l i (i + 2)) = S [47, 47]) := by
              intro h
              have h := S_inj h
              by_cases hlast : i + 1 < l.length
              · obtain ⟨d, hd2, _⟩ := getI (l := l) (i := i + 1) hlast
                rw [cut_two hc hd2] at h
                have h1 : c = 47 := (List.cons.inj h).1
                have h2 : d = 47 := (List.cons.inj (List.cons.inj h).2).1
                exact hcm ⟨h1, h2 ▸ hd2⟩
              · rw [cut_one hc (by omega)] at h
                have := congrArg List.length h
                simp at this
            rw [if_neg hne]
            walk_at "fx"
            refine ⟨⟨by omega, by rw [S_len]; omega, by rw [S_len]; omega⟩, fun q r H3 nq sq tr eq => ?_⟩
            rw [L_S, Int.toNat_natCast] at tr eq
            walk_at "fx"
            have tl3 := same_tl sq tl2
            obtain ⟨as, e1, e2, e3⟩ := tl3.ex
            refine ⟨[.ref r, .int (((tokenAt l i).2 : Nat) : Int)], SqT.of eq, rfl, .ref r, [.int (((tokenAt l i).2 : Nat) : Int)], rfl, .int (((tokenAt l i).2 : Nat) : Int), [], rfl, rfl, ?_⟩
            simp only [e1]
            refine ⟨trivial, by rw [List.length_map, e2]; exact len_line' (by omega), ?_⟩
            refine ifs_ ?_
            walk_at "fx"
            have tr2 : upd H3 o (.lst (as.map V.ref ++ [.ref r])) r = some (.tup [.str (tokenAt l i).1.1, .int (((tokenAt l i).1.2.1 : Nat) : Int), (tokenAt l i).1.2.2]) := by
              unfold IsTok at tr
              rw [upd_ne (fun h => by subst h; rw [e1] at tr; cases tr)]
              exact tr
            refine ⟨_, rl_t tr2, _, atI_nat (j := 0) rfl, ?_⟩
            walk_at "fx"
            have tlN := TokList.app (o := o) e1 e2 e3 tr
            have sN : Same H (upd H3 o (.lst (as.map V.ref ++ [.ref r]))) := same_mut (sH.trans sq) no
            by_cases hf : (tokenAt l i).1.1 = Str.ofString "fault"
            · rw [if_pos hf]
              exact k o _ _ no sN tlN (hT _ (.fault hc hb hcm hf))
            · rw [if_neg hf]
              have g1 : i < (tokenAt l i).2 := (tokenAt_gt hlt).resolve_right hf
              have g2 := tokenAt_le hlt
              refine ⟨l.length - (tokenAt l i).2, by omega, ⟨(tokenAt l i).2, ts ++ [(tokenAt l i).1], _, rfl, g2, rfl, by rw [List.length_append]; simp; omega, sN, tlN, fun us h => ?_⟩⟩
              rw [List.append_assoc]
              exact hT _ (.tok hc hb hcm hf h)
      · rw [if_neg (by omega)]
        have ei : i = l.length := by omega
        subst ei
        refine hN0 _ _ ?_
        obtain ⟨as, e1, e2, e3⟩ := tl.ex
        walk_at "fx"
        simp only [e1]
        refine ⟨trivial, len_line (by omega), fun p H2 np sp ep => ?_⟩
        simp only [sp _ _ e1]
        have no2 : H o = none := no
        refine ⟨by rw [List.length_map]; exact Nat.lt_of_le_of_lt (show as.length ≤ 200000 by omega) (by decide), ?_⟩
        exact k o _ (ts ++ [(Str.ofString "end", l.length, V.non)]) no (same_mut (sm.trans sp) no) (TokList.app (sp _ _ e1) e2 (fun j a t h1 h2 => sp _ _ (e3 j a t h1 h2)) ep) (hT _ .fin)
    · cases h
end

section
variable {P : Program} {w : World} {K : PySem.W.Frag} {mg : Str → Option Value} {base : Heap}
def spLWord : Sp := fun vs H Q _ => match vs with
  | [.int r] => ∀ H1, Same H H1 → Q (.str (lawWord r)) H1
  | _ => False
theorem ok_lword (A : At K mg "_law_word" "_law_word" s_law_word ["row"]) (T : Txt K mg) : Has P w K mg base CX0 "_law_word" 1 ["row"] spLWord := by
  have Sc := sc_law_word
  refine has_of A Sc (fun vs H Q E h => ?_) (fun cdv f A outer s H vs Q E hr h => ?_)
  · unfold spLWord at h; split at h; rfl; cases h
  · unfold spLWord at h
    split at h
    · rename_i r
      refine ⟨_, (pss_cons (ps_set (i := 1) Sc.nd rfl (.inl rfl) (fe_lst (pa_cons pe_str (pa_cons pe_str (pa_cons pe_str (pa_cons pe_str (pa_cons pe_str (pa_cons pe_str (pa_cons pe_str (pa_cons pe_str (pa_cons pe_str (pa_cons pe_str (pa_cons pe_str (pa_cons pe_str (pa_cons pe_str (pa_cons pe_str (pa_cons pe_str (pa_cons pe_str (pa_cons pe_str (pa_cons pe_str (pa_cons pe_str (pa_cons pe_str (pa_cons pe_str (pa_cons pe_str (pa_cons pe_str (pa_cons pe_str (pa_cons pe_str pa_nil)))))))))))))))))))))))))))
      (pss_one (ps_ret (pe_ix ix_fx (fe_var 1) (pe_op op_fMod (pe_callTy call_fInt (by rfl) T.no_int (by decide +kernel) (pa_cons (fe_var 0) pa_nil)) pe_int) (fun _ _ => rfl))))), ?_⟩
      walk_at "fx0"
      walk_at "fx"
      intro p H1 np sm ep
      walk_at "fx"
      exact ⟨_, rl_l ep, _, at_getD (ns := WORDS) (S []) (emod_lo r (m := 25) (by decide)) (emod_hi r (m := 25) (by decide)), h H1 sm⟩
    · cases h
def spLName : Sp := fun vs H Q _ => match vs with
  | [.int r] => Q (.str (S (lawName r))) H
  | _ => False
theorem ok_lname (A : At K mg "_law_name" "_law_name" s_law_name ["row"]) (T : Txt K mg) : Has P w K mg base CX0 "_law_name" 1 ["row"] spLName := by
  have Sc := sc_law_name
  refine has_of A Sc (fun vs H Q E h => ?_) (fun cdv f A outer s H vs Q E hr h => ?_)
  · unfold spLName at h; split at h; rfl; cases h
  · unfold spLName at h
    split at h
    · rename_i r
      refine ⟨_, (pss_cons (ps_set (i := 1) Sc.nd rfl (.inl rfl) pe_str)
      (pss_cons (ps_set (i := 2) Sc.nd rfl (.inl rfl) (pe_op op_fAdd (pe_op op_fAdd (pe_ix ix_fx (fe_var 1) (pe_op op_fMod (pe_callTy call_fInt (by rfl) T.no_int (by decide +kernel) (pa_cons (fe_var 0) pa_nil)) pe_int) (fun _ _ => rfl)) (pe_ix ix_fx (fe_var 1) (pe_op op_fMod (pe_callTy call_fInt (by rfl) T.no_int (by decide +kernel) (pa_cons (pe_op op_fDiv (fe_var 0) pe_int) pa_nil)) pe_int) (fun _ _ => rfl))) pe_str))
      (pss_cons (ps_if (pt_cmpR (op_fEq hr.units) (pe_op op_fMod (pe_op op_fDiv (fe_var 0) pe_int) pe_int) pe_int (nomark _)) (pss_one (ps_set (i := 2) Sc.nd rfl (.inl rfl) (pe_op op_fAdd (fe_var 2) (pe_callTy call_fStr (by rfl) T.no_str (by decide +kernel) (pa_cons (pe_op op_fMod (pe_callTy call_fInt (by rfl) T.no_int (by decide +kernel) (pa_cons (pe_op op_fDiv (fe_var 0) pe_int) pa_nil)) pe_int) pa_nil))))) pss_nil)
      (pss_one (ps_ret (fe_var 2)))))), ?_⟩
      walk_at "fx0"
      walk_at "fx"
      have e95 : Str.ofString "_" = S [95] := by decide +kernel
      have a1 : ∀ x : Int, atI (Str.ofString "abcxyzABCZ_letfunorislm").cps.toList (x % 23) = some (nl x) := fun x =>
        at_getN (ns := NL) 0 (emod_lo x (m := 23) (by decide)) (by rw [nl_ok.1]; exact emod_hi x (m := 23) (by decide))
      refine ⟨by decide +kernel, _, a1 r, small_div (by decide) (by decide), by decide +kernel, _, a1 (r / 23), ?_⟩
      simp only [S_one, S_app, S_len, e95]
      refine ⟨len_line (by simp), len_line (by simp), ?_⟩
      refine cut_ fun N hN => ifs_ ?_
      walk_at "fx"
      have b1 := emod_lo (r / 1587) (m := 100) (by decide)
      have b2 := emod_hi (r / 1587) (m := 100) (by decide)
      have key : S (lawName r) = S ([nl r, nl (r / 23), 95] ++ (if r / 529 % 3 = 0 then TL.numL (r / 1587 % 100).toNat else [])) := rfl
      rw [key] at h
      refine ⟨small_div (by decide) (by decide), ?_⟩
      by_cases h0 : r / 529 % 3 = 0
      · rw [if_pos h0] at h ⊢
        obtain ⟨n, hn⟩ := Int.eq_ofNat_of_zero_le b1
        have hl := TL.numL_len (n := n) (k := 2) (by decide) (by omega)
        rw [hn] at h ⊢
        rw [Int.toNat_natCast] at h
        have es : Str.ofString (toString ((n : Nat) : Int)) = S (TL.numL n) := SX.num_S n
        rw [es]
        refine ⟨small_div (by decide) (by decide), ?_, ?_⟩
        · rw [Int.natAbs_natCast]
          by_cases hz : n = 0
          · subst hz; decide
          · exact Nat.lt_trans ((Nat.log2_lt hz).mpr (show n < 2 ^ 7 by omega)) (by decide)
        · simp only [S_len, S_app]
          refine ⟨len_line (by omega), hN _ _ ?_⟩
          walk_at "fx"
          exact h
      · rw [if_neg h0] at h ⊢
        refine hN _ _ ?_
        walk_at "fx"
        rw [List.append_nil] at h
        exact h
    · cases h
structure LXInv (H1 : Hp) (o : Addr) (whole : List Nat) (n : Nat) (i : Nat) (σ : L2.St) (H : Hp) : Prop where
  same : H = H1
  ex : ∃ (x : Int) (z : List Nat) (v : Option V), σ = [some (.int x), some (.ref o), some (.str (S z)), v] ∧ z ++ lawText (n - i) i x = whole ∧ z.length ≤ i
structure LSInv (H1 : Hp) (l : List Nat) (i : Nat) (σ : L2.St) (H : Hp) : Prop where
  same : H = H1
  ex : ∃ (v : Option V), σ = [some (.str (S l)), some (.str (S (spell (l.take i)))), v] ∧ i ≤ l.length
theorem str_q' : Str.ofString "\"" = S [34] := by decide +kernel
theorem str_bs' : Str.ofString "\\" = S [92] := by decide +kernel
theorem str_nl' : Str.ofString "\n" = S [10] := by decide +kernel
theorem one_ne' {a b : Nat} : (S [a] = S [b]) = (a = b) := by
  apply propext
  exact ⟨fun h => (List.cons.inj (S_inj h)).1, fun h => by rw [h]⟩
def spLText : Sp := fun vs H Q _ => match vs with
  | [.int r] => ∀ H1, Same H H1 → Q (.str (S (theText r))) H1
  | _ => False
theorem ok_ltext (A : At K mg "_law_text" "_law_text" s_law_text ["row"]) (T : Txt K mg) : Has P w K mg base CX0 "_law_text" 1 ["row"] spLText := by
  have Sc := sc_law_text
  refine has_of A Sc (fun vs H Q E h => ?_) (fun cdv f A outer s H vs Q E hr h => ?_)
  · unfold spLText at h; split at h; rfl; cases h
  · unfold spLText at h
    split at h
    · rename_i r
      refine ⟨_, (pss_cons (ps_set (i := 1) Sc.nd rfl (.inl rfl) (fe_lst (pa_cons pe_str (pa_cons pe_str (pa_cons pe_str (pa_cons pe_str (pa_cons pe_str (pa_cons pe_str (pa_cons pe_str (pa_cons pe_str (pa_cons pe_str (pa_cons pe_str (pa_cons pe_str (pa_cons pe_str (pa_cons pe_str (pa_cons pe_str pa_nil))))))))))))))))
      (pss_cons (ps_set (i := 2) Sc.nd rfl (.inl rfl) pe_str)
      (pss_cons (ps_for PassesOwn.never rfl (pi_range1 (by rfl) T.no_range (pa_cons (pe_op op_fMod (pe_callTy call_fInt (by rfl) T.no_int (by decide +kernel) (pa_cons (pe_op op_fDiv (fe_var 0) pe_int) pa_nil)) pe_int) pa_nil)) (pg_name (i := 3) Sc.nd rfl (.inl rfl)) (pss_cons (ps_set (i := 2) Sc.nd rfl (.inl rfl) (pe_op op_fAdd (fe_var 2) (pe_ix ix_fx (fe_var 1) (pe_op op_fMod (pe_callTy call_fInt (by rfl) T.no_int (by decide +kernel) (pa_cons (fe_var 0) pa_nil)) pe_int) (fun _ _ => rfl))))
      (pss_one (ps_set (i := 0) Sc.nd rfl (.inl rfl) (pe_op op_fAdd (pe_op op_fDiv (fe_var 0) pe_int) (fe_var 3))))))
      (pss_one (ps_ret (fe_var 2)))))), ?_⟩
      walk_at "fx0"
      walk_at "fx"
      intro o H1 no sm eo
      refine for_ ?_
      walk_at "fx"
      have b1 := emod_lo (r / 7) (m := 6) (by decide)
      have b2 := emod_hi (r / 7) (m := 6) (by decide)
      refine ⟨small_div (by decide) (by decide), by omega, by omega, ?_⟩
      refine loop_range (LXInv H1 o (lawText (r / 7 % 6).toNat 0 r) (r / 7 % 6).toNat) ⟨rfl, r, [], none, rfl, by rw [List.nil_append, Nat.sub_zero], Nat.zero_le _⟩ ?_ ?_
      · rintro i σ H' hi ⟨rfl, x, z, v, rfl, hz, hl⟩
        walk_at "fx"
        have e : (([V.str "a", V.str "Z", V.str "0", V.str " ", V.str "\"", V.str "\\", V.str "\n", V.str "n", V.str "/", V.str "~", V.str "{", V.str "'", V.str "#", V.str ";"] : List V)) = (CH.map fun c => S [c]).map V.str := by decide +kernel
        rw [e] at eo
        have a1 := at_getD (ns := CH.map fun c => S [c]) (S [0]) (emod_lo x (m := 14) (by decide)) (emod_hi x (m := 14) (by decide))
        have a2 : (CH.map fun c => S [c]).getD (x % 14).toNat (S [0]) = S [chAt x] := by
          unfold chAt
          simp [List.getD]
        rw [a2] at a1
        refine ⟨_, rl_l eo, _, a1, ?_⟩
        simp only [S_app, S_len]
        refine ⟨len_line (by simp; omega), small_div (by decide) (by decide), rfl, _, z ++ [chAt x], _, rfl, ?_, ?_⟩
        · rw [← hz]
          have : (r / 7 % 6).toNat - i = ((r / 7 % 6).toNat - (i + 1)) + 1 := by omega
          rw [this, List.append_assoc]
          rfl
        · rw [List.length_append]; simp; omega
      · rintro σ H' ⟨rfl, x, z, v, rfl, hz, hl⟩
        walk_at "fx"
        rw [Nat.sub_self] at hz
        have hz2 : z = theText r := by
          unfold theText
          rw [← hz, lawText, List.append_nil]
        subst hz2
        exact h _ sm
    · cases h
def spLSpell : Sp := fun vs H Q _ => match vs with
  | [.str z] => z.length ≤ 1000 ∧ Q (.str (S (34 :: (spell (L z) ++ [34])))) H
  | _ => False
theorem ok_lspell (A : At K mg "_law_spelled" "_law_spelled" s_law_spelled ["text"]) (T : Txt K mg) : Has P w K mg base CX0 "_law_spelled" 1 ["text"] spLSpell := by
  have Sc := sc_law_spelled
  refine has_of A Sc (fun vs H Q E h => ?_) (fun cdv f A outer s H vs Q E hr h => ?_)
  · unfold spLSpell at h; split at h; rfl; cases h
  · unfold spLSpell at h
    split at h
    · rename_i z
      obtain ⟨h1, k⟩ := h
      refine ⟨_, (pss_cons (ps_set (i := 1) Sc.nd rfl (.inl rfl) pe_str)
      (pss_cons (ps_for PassesOwn.never rfl (pi_str (fe_var 0)) (pg_name (i := 2) Sc.nd rfl (.inl rfl)) (pss_one (ps_if (pt_cmpR (op_fEq hr.units) (fe_var 2) pe_str (nomark _)) (pss_one (ps_set (i := 1) Sc.nd rfl (.inl rfl) (pe_op op_fAdd (fe_var 1) pe_str))) (pss_one (ps_if (PW.pt (pw_or (pt_cmpR (op_fEq hr.units) (fe_var 2) pe_str (nomark _)) (pw_or1 (pt_cmpR (op_fEq hr.units) (fe_var 2) pe_str (nomark _))))) (pss_one (ps_set (i := 1) Sc.nd rfl (.inl rfl) (pe_op op_fAdd (pe_op op_fAdd (fe_var 1) pe_str) (fe_var 2)))) (pss_one (ps_set (i := 1) Sc.nd rfl (.inl rfl) (pe_op op_fAdd (fe_var 1) (fe_var 2)))))))))
      (pss_one (ps_ret (pe_op op_fAdd (pe_op op_fAdd pe_str (fe_var 1)) pe_str))))), ?_⟩
      walk_at "fx0"
      walk_at "fx"
      refine for_ ?_
      walk_at "fx"
      obtain ⟨l, rfl⟩ : ∃ l, z = S l := ⟨_, (S_L z).symm⟩
      rw [S_len] at h1
      rw [L_S] at k
      refine loop_str (LSInv H l) ⟨rfl, none, rfl, Nat.zero_le _⟩ ?_ ?_
      · rintro i c σ H' hc ⟨rfl, v, rfl, hi⟩
        rw [S_cps] at hc
        obtain ⟨hlt, ec⟩ := List.getElem?_eq_some_iff.mp hc
        have et : l.take (i + 1) = l.take i ++ [c] := by rw [List.take_add_one, hc]; rfl
        have hb := spell_len (l.take i)
        have hb2 : (l.take i).length ≤ 1000 := by rw [List.length_take]; omega
        walk_at "fx"
        refine ifs_ ?_
        walk_at "fx"
        simp only [str_nl', S_one, one_ne']
        by_cases q1 : c = 10
        · rw [if_pos q1]
          have e1 : Str.ofString "\\n" = S [92, 110] := by decide +kernel
          simp only [e1, S_app, S_len]
          refine ⟨len_line (by simp; omega), rfl, some (.str (S [c])), ?_, hlt⟩
          rw [et, spell_snoc]; subst q1; rfl
        rw [if_neg q1]
        refine ifs_ ?_
        walk_at "fx"
        simp only [str_q', str_bs', S_one, one_ne']
        by_cases q2 : c = 34
        · rw [if_pos q2]
          simp only [S_app, S_len]
          refine ⟨len_line (by simp; omega), len_line (by simp; omega), rfl, some (.str (S [c])), ?_, hlt⟩
          rw [et, spell_snoc, List.append_assoc]; subst q2; rfl
        by_cases q3 : c = 92
        · rw [if_neg q2, if_pos q3]
          simp only [S_app, S_len]
          refine ⟨len_line (by simp; omega), len_line (by simp; omega), rfl, some (.str (S [c])), ?_, hlt⟩
          rw [et, spell_snoc, List.append_assoc]; subst q3; rfl
        rw [if_neg q2, if_neg q3]
        simp only [S_app, S_len]
        refine ⟨len_line (by simp; omega), rfl, some (.str (S [c])), ?_, hlt⟩
        rw [et, spell_snoc]
        unfold spell1
        rw [if_neg q1, if_neg q2, if_neg q3]
      · rintro σ H' ⟨rfl, v, rfl, hi⟩
        rw [S_len, List.take_of_length_le (Nat.le_refl _)]
        have hb := spell_len l
        walk_at "fx"
        simp only [str_q', S_app, S_len]
        exact ⟨len_line (by simp; omega), len_line (by simp; omega), k⟩
    · cases h
def spLPiece : Sp := fun vs H Q _ => match vs with
  | [.int r] => ∀ o H1 p kd v, H o = none → Same H H1 → H1 o = some (.lst [.str (S p), .str kd, v]) → p.length ≤ 320 → Piece p kd v → Q (.ref o) H1
  | _ => False
theorem ok_lpiece (A : At K mg "_law_piece" "_law_piece" s_law_piece ["row"]) (T : Txt K mg) (H_law_word : Has P w K mg base CX0 "_law_word" 1 ["row"] spLWord) (H_law_name : Has P w K mg base CX0 "_law_name" 1 ["row"] spLName)
    (H_law_text : Has P w K mg base CX0 "_law_text" 1 ["row"] spLText) (H_law_spelled : Has P w K mg base CX0 "_law_spelled" 1 ["text"] spLSpell) : Has P w K mg base CX0 "_law_piece" 2 ["row"] spLPiece := by
  have Sc := sc_law_piece
  refine has_of A Sc (fun vs H Q E h => ?_) (fun cdv f A outer s H vs Q E hr h => ?_)
  · unfold spLPiece at h; split at h; rfl; cases h
  · unfold spLPiece at h
    split at h
    · rename_i r
      refine ⟨_, (pss_cons (ps_set (i := 1) Sc.nd rfl (.inl rfl) (pe_op op_fMod (pe_callTy call_fInt (by rfl) T.no_int (by decide +kernel) (pa_cons (fe_var 0) pa_nil)) pe_int))
      (pss_cons (ps_set (i := 2) Sc.nd rfl (.inl rfl) (pe_op op_fDiv (fe_var 0) pe_int))
      (pss_cons (ps_if (pt_cmpR (op_fEq hr.units) (fe_var 1) pe_int (nomark _)) (pss_one (ps_ret (fe_lst (pa_cons (fe_call H_law_word (hr.mono (by walk_at "rm")) (by rfl) pass0 (pa_cons (fe_var 2) pa_nil)) (pa_cons pe_str (pa_cons (fe_call H_law_word (hr.mono (by walk_at "rm")) (by rfl) pass0 (pa_cons (fe_var 2) pa_nil)) pa_nil)))))) pss_nil)
      (pss_cons (ps_if (pt_cmpR (op_fEq hr.units) (fe_var 1) pe_int (nomark _)) (pss_one (ps_ret (fe_lst (pa_cons (fe_call H_law_name (hr.mono (by walk_at "rm")) (by rfl) pass0 (pa_cons (fe_var 2) pa_nil)) (pa_cons pe_str (pa_cons (fe_call H_law_name (hr.mono (by walk_at "rm")) (by rfl) pass0 (pa_cons (fe_var 2) pa_nil)) pa_nil)))))) pss_nil)
      (pss_cons (ps_if (pt_cmpR (op_fEq hr.units) (fe_var 1) pe_int (nomark _)) (pss_cons (ps_set (i := 3) Sc.nd rfl (.inl rfl) (pe_op op_fMod (pe_callTy call_fInt (by rfl) T.no_int (by decide +kernel) (pa_cons (fe_var 2) pa_nil)) (pe_ix ix_fx (fe_lst (pa_cons pe_int (pa_cons pe_int (pa_cons pe_int (pa_cons pe_int (pa_cons pe_int pa_nil)))))) (pe_op op_fMod (pe_callTy call_fInt (by rfl) T.no_int (by decide +kernel) (pa_cons (pe_op op_fDiv (fe_var 2) pe_int) pa_nil)) pe_int) (fun _ _ => rfl))))
      (pss_one (ps_ret (fe_lst (pa_cons (pe_op op_fAdd (pe_op op_fMul pe_str (pe_ix ix_fx (fe_lst (pa_cons pe_int (pa_cons pe_int (pa_cons pe_int (pa_cons pe_int pa_nil))))) (pe_op op_fMod (pe_callTy call_fInt (by rfl) T.no_int (by decide +kernel) (pa_cons (pe_op op_fDiv (fe_var 2) pe_int) pa_nil)) pe_int) (fun _ _ => rfl))) (pe_callTy call_fStr (by rfl) T.no_str (by decide +kernel) (pa_cons (fe_var 3) pa_nil))) (pa_cons pe_str (pa_cons (fe_var 3) pa_nil))))))) pss_nil)
      (pss_cons (ps_if (pt_cmpR (op_fEq hr.units) (fe_var 1) pe_int (nomark _)) (pss_one (ps_ret (fe_lst (pa_cons (fe_call H_law_spelled (hr.mono (by walk_at "rm")) (by rfl) pass0 (pa_cons (fe_call H_law_text (hr.mono (by walk_at "rm")) (by rfl) pass0 (pa_cons (fe_var 2) pa_nil)) pa_nil)) (pa_cons pe_str (pa_cons (fe_call H_law_text (hr.mono (by walk_at "rm")) (by rfl) pass0 (pa_cons (fe_var 2) pa_nil)) pa_nil)))))) pss_nil)
      (pss_cons (ps_set (i := 4) Sc.nd rfl (.inl rfl) (fe_lst (pa_cons pe_str (pa_cons pe_str (pa_cons pe_str (pa_cons pe_str (pa_cons pe_str (pa_cons pe_str (pa_cons pe_str (pa_cons pe_str (pa_cons pe_str (pa_cons pe_str (pa_cons pe_str (pa_cons pe_str (pa_cons pe_str (pa_cons pe_str (pa_cons pe_str (pa_cons pe_str (pa_cons pe_str (pa_cons pe_str (pa_cons pe_str (pa_cons pe_str (pa_cons pe_str pa_nil)))))))))))))))))))))))
      (pss_one (ps_ret (fe_lst (pa_cons (pe_ix ix_fx (fe_var 4) (pe_op op_fMod (pe_callTy call_fInt (by rfl) T.no_int (by decide +kernel) (pa_cons (fe_var 2) pa_nil)) pe_int) (fun _ _ => rfl)) (pa_cons pe_str (pa_cons (pe_ix ix_fx (fe_var 4) (pe_op op_fMod (pe_callTy call_fInt (by rfl) T.no_int (by decide +kernel) (pa_cons (fe_var 2) pa_nil)) pe_int) (fun _ _ => rfl)) pa_nil))))))))))))), ?_⟩
      walk_at "fx0"
      walk_at "fx"
      refine ⟨small_div (by decide) (by decide), ?_⟩
      generalize r / 5 = x
      refine cut_ fun N hN => ifs_ ?_
      walk_at "fx"
      by_cases k0 : r % 5 = 0
      · rw [if_pos k0]
        obtain ⟨p, e, hl, hp⟩ := lawWord_piece x
        unfold spLWord
        intro H1 sm1 H2 sm2 o H3 no sm3 eo
        rw [e] at eo
        exact h o H3 p _ _ (sm1.free (sm2.free no)) ((sm1.trans sm2).trans sm3) eo (Nat.le_trans hl (by decide)) hp
      rw [if_neg k0]
      refine hN _ _ ?_
      clear hN N
      walk_at "fx"
      refine cut_ fun N hN => ifs_ ?_
      walk_at "fx"
      by_cases k1 : r % 5 = 1
      · rw [if_pos k1]
        obtain ⟨hl, hp⟩ := lawName_piece x
        unfold spLName
        intro o H3 no sm3 eo
        exact h o H3 _ _ _ no sm3 eo (Nat.le_trans hl (by decide)) hp
      rw [if_neg k1]
      refine hN _ _ ?_
      clear hN N
      walk_at "fx"
      refine cut_ fun N hN => ifs_ ?_
      walk_at "fx"
      by_cases k2 : r % 5 = 2
      · rw [if_pos k2]
        intro t H2 nt sm2 et
        obtain ⟨m, hm, a1⟩ := at_ints_mem (ns := [1, 10, 1000, 1000000, 1000000000000]) (i := x / 3 % 5) (emod_lo _ (by decide)) (emod_hi _ (by decide))
        have hm2 : 0 < m ∧ m ≤ 1000000000000 := by
          have all : ∀ m ∈ ([1, 10, 1000, 1000000, 1000000000000] : List Int), 0 < m ∧ m ≤ 1000000000000 := by decide
          exact all m hm
        refine ⟨small_div (by decide) (by decide), _, rl_l et, _, a1, hm2.1, ?_⟩
        intro u H3 nu sm3 eu
        obtain ⟨zi, hz, a2⟩ := at_ints_mem (ns := [0, 1, 2, 300]) (i := x / 40 % 4) (emod_lo _ (by decide)) (emod_hi _ (by decide))
        refine ⟨small_div (by decide) (by decide), _, rl_l eu, _, a2, ?_⟩
        obtain ⟨n, hn⟩ := Int.eq_ofNat_of_zero_le (emod_lo x hm2.1)
        have n1 := emod_hi x hm2.1
        rw [hn]
        rw [hn] at n1
        have e0 : ∃ z : Nat, z ≤ 300 ∧ MulOk (Str.ofString "0") zi ∧ Txt.mul (Str.ofString "0") zi = S (List.replicate z 48) := by
          have : zi = 0 ∨ zi = 1 ∨ zi = 2 ∨ zi = 300 := by simpa using hz
          rcases this with rfl | rfl | rfl | rfl
          · exact ⟨0, by decide, by unfold MulOk; decide +kernel, by decide +kernel⟩
          · exact ⟨1, by decide, by unfold MulOk; decide +kernel, by decide +kernel⟩
          · exact ⟨2, by decide, by unfold MulOk; decide +kernel, by decide +kernel⟩
          · exact ⟨300, by decide, by unfold MulOk; decide +kernel, by decide +kernel⟩
        obtain ⟨z, hz3, hmk, hmt⟩ := e0
        have es : Str.ofString (toString ((n : Nat) : Int)) = S (TL.numL n) := SX.num_S n
        have hl := TL.numL_len (n := n) (k := 12) (by decide) (by omega)
        have hp : Piece (List.replicate z 48 ++ TL.numL n) (Str.ofString "number") (.int n) := Piece.number (by omega)
        dsimp only
        rw [hmt, es]
        refine ⟨hmk, ?_, ?_⟩
        · rw [Int.natAbs_natCast]
          by_cases hz : n = 0
          · subst hz; decide
          · exact Nat.lt_trans ((Nat.log2_lt hz).mpr (show n < 2 ^ 40 by omega)) (by decide)
        simp only [S_len, S_app, List.length_replicate]
        refine ⟨len_line (by omega), fun o H4 no sm4 eo => ?_⟩
        exact h o H4 (List.replicate z 48 ++ TL.numL n) _ _ (sm2.free (sm3.free no)) ((sm2.trans sm3).trans sm4) eo (by rw [List.length_append, List.length_replicate]; omega) hp
      rw [if_neg k2]
      refine hN _ _ ?_
      clear hN N
      walk_at "fx"
      refine cut_ fun N hN => ifs_ ?_
      walk_at "fx"
      by_cases k3 : r % 5 = 3
      · rw [if_pos k3]
        obtain ⟨hl, hp⟩ := theText_piece x
        have hl2 := theText_len x
        unfold spLText
        intro H1 sm1
        unfold spLSpell
        refine ⟨by rw [S_len]; omega, ?_⟩
        intro H2 sm2 o H3 no sm3 eo
        exact h o H3 _ _ _ (sm1.free (sm2.free no)) ((sm1.trans sm2).trans sm3) eo (Nat.le_trans hl (by decide)) hp
      rw [if_neg k3]
      refine hN _ _ ?_
      clear hN N
      walk_at "fx"
      intro o H1 no sm1 eo
      have a1 := at_getD (ns := SIGNS) (S []) (emod_lo x (m := 21) (by decide)) (emod_hi x (m := 21) (by decide))
      refine ⟨_, rl_l eo, _, a1, _, rl_l eo, _, a1, ?_⟩
      intro q H2 nq sm2 eq
      obtain ⟨p, e, hl, hp⟩ := lawSign_piece x
      have e' : SIGNS.getD (x % 21).toNat (S []) = S p := e
      rw [e'] at eq
      exact h q H2 p _ _ (sm1.free nq) (sm1.trans sm2) eq (Nat.le_trans hl (by decide)) hp
    · cases h
theorem inV_words' (x : Str) : ∀ ws : List Str, inV (.str x) (ws.map V.str) = decide (x ∈ ws)
  | [] => by simp [inV]
  | y :: r => by
    have ih := inV_words' x r
    unfold inV at ih ⊢
    rw [List.map_cons, List.any_cons, ih]
    show (decide (y = x) || decide (x ∈ r)) = _
    rw [Bool.eq_iff_iff]
    simp only [Bool.or_eq_true, decide_eq_true_eq, List.mem_cons]
    exact ⟨fun h => h.elim (fun h => .inl h.symm) .inr, fun h => h.elim (fun h => .inl h.symm) .inr⟩
def spLGap : Sp := fun vs H Q _ => match vs with
  | [.int r, .str b, .str a] => ∀ H1 g, Same H H1 → GapSpec b a g → Q (.str (S g)) H1
  | _ => False
theorem ok_lgap (A : At K mg "_law_gap" "_law_gap" s_law_gap ["row", "before", "after"]) (T : Txt K mg) : Has P w K mg base CX0 "_law_gap" 1 ["row", "before", "after"] spLGap := by
  have Sc := sc_law_gap
  refine has_of A Sc (fun vs H Q E h => ?_) (fun cdv f A outer s H vs Q E hr h => ?_)
  · unfold spLGap at h; split at h; rfl; cases h
  · unfold spLGap at h
    split at h
    · rename_i r b a
      refine ⟨_, (pss_cons (ps_set (i := 3) Sc.nd rfl (.inl rfl) (fe_lst (pa_cons pe_str (pa_cons pe_str (pa_cons pe_str (pa_cons pe_str (pa_cons pe_str pa_nil)))))))
      (pss_cons (ps_if (PW.pt (pw_or (pt_cmpR op_fIn (fe_var 1) (fe_tup (pa_cons pe_str (pa_cons pe_str (pa_cons pe_str (pa_cons pe_str (pa_cons pe_str (pa_cons pe_str (pa_cons pe_str (pa_cons pe_str (pa_cons pe_str pa_nil)))))))))) (by with_unfolding_all rfl)) (pw_or1 (pt_cmpR op_fIn (fe_var 2) (fe_tup (pa_cons pe_str (pa_cons pe_str (pa_cons pe_str (pa_cons pe_str (pa_cons pe_str (pa_cons pe_str (pa_cons pe_str (pa_cons pe_str pa_nil))))))))) (by with_unfolding_all rfl))))) (pss_one (ps_set (i := 3) Sc.nd rfl (.inl rfl) (fe_lst (pa_cons pe_str (pa_cons pe_str (pa_cons pe_str (pa_cons pe_str (pa_cons pe_str pa_nil)))))))) pss_nil)
      (pss_cons (ps_if (pt_cmpR (op_fEq hr.units) (fe_var 1) pe_str (nomark _)) (pss_one (ps_ret (pe_op op_fAdd pe_str (pe_ix ix_fx (fe_var 3) (pe_op op_fMod (pe_callTy call_fInt (by rfl) T.no_int (by decide +kernel) (pa_cons (fe_var 0) pa_nil)) pe_int) (fun _ _ => rfl))))) pss_nil)
      (pss_one (ps_ret (pe_ix ix_fx (fe_var 3) (pe_op op_fMod (pe_callTy call_fInt (by rfl) T.no_int (by decide +kernel) (pa_cons (fe_var 0) pa_nil)) pe_int) (fun _ _ => rfl))))))), ?_⟩
      walk_at "fx0"
      walk_at "fx"
      intro o H1 no sm eo
      refine cut_ fun N hN => ifs_ ?_
      walk_at "fx"
      have e1 : ([V.str (Str.ofString " "), V.str (Str.ofString "\n"), V.str (Str.ofString "  \n "), V.str (Str.ofString " // a \"b\n"), V.str (Str.ofString "// {\n\n")] : List V) = (([0, 1, 2, 3, 4].map fun i => S (g1 i)) : List Str).map V.str := by decide +kernel
      have e2 : ([V.str (Str.ofString ""), V.str (Str.ofString ""), V.str (Str.ofString " "), V.str (Str.ofString "\n"), V.str (Str.ofString "//\n")] : List V) = (([0, 1, 2, 3, 4].map fun i => S (g2 i)) : List Str).map V.str := by decide +kernel
      have e3 : ([V.str (Str.ofString "("), V.str (Str.ofString ")"), V.str (Str.ofString "["), V.str (Str.ofString "]"), V.str (Str.ofString ","), V.str (Str.ofString ";"), V.str (Str.ofString "{"), V.str (Str.ofString "}"), V.str (Str.ofString ":")] : List V)
        = (([40, 41, 91, 93, 44, 59, 123, 125, 58].map fun c => S [c]) : List Str).map V.str := by decide +kernel
      have e4 : ([V.str (Str.ofString "("), V.str (Str.ofString ")"), V.str (Str.ofString "["), V.str (Str.ofString "]"), V.str (Str.ofString ","), V.str (Str.ofString ";"), V.str (Str.ofString "{"), V.str (Str.ofString "}")] : List V)
        = (([40, 41, 91, 93, 44, 59, 123, 125].map fun c => S [c]) : List Str).map V.str := by decide +kernel
      have i0 := emod_lo r (m := 5) (by decide)
      have i1 := emod_hi r (m := 5) (by decide)
      have key : ∀ (H2 : Hp) (q : Addr) (f : Nat → List Nat), Same H H2 → H2 q = some (.lst (([0, 1, 2, 3, 4].map fun i => S (f i)).map V.str)) → (∀ i, i < 5 → b ≠ S [47] → GapSpec b a (f i)) → (∀ i, Gap (f i) ∧ (f i).length ≤ 9) →
          N [some (.int r), some (.str b), some (.str a), some (.ref q)] H2 := by
        intro H2 q f sm2 eq c1 c2
        refine hN _ _ ?_
        have a1 : atI ((([0, 1, 2, 3, 4].map fun i => S (f i)) : List Str).map V.str) (r % 5) = some (.str (S (f (r % 5).toNat))) := by
          rw [at_getD (ns := [0, 1, 2, 3, 4].map fun i => S (f i)) (S []) i0 i1]
          have : (r % 5).toNat < 5 := by omega
          generalize (r % 5).toNat = j at this
          have : j = 0 ∨ j = 1 ∨ j = 2 ∨ j = 3 ∨ j = 4 := by omega
          rcases this with rfl | rfl | rfl | rfl | rfl <;> rfl
        walk_at "fx"
        refine ifs_ ?_
        walk_at "fx"
        have e47 : Str.ofString "/" = S [47] := by decide +kernel
        have e32 : Str.ofString " " = S [32] := by decide +kernel
        by_cases hb : b = S [47]
        · rw [if_pos (by rw [hb, e47])]
          refine ⟨_, rl_l eq, _, a1, ?_⟩
          have hl := (c2 (r % 5).toNat).2
          walk_at "fx"
          simp only [e32, S_len, S_app]
          exact ⟨len_line (by simp; omega), h H2 _ sm2 (gap_slash (c2 _).1 hl)⟩
        · rw [if_neg (by rw [e47]; exact hb)]
          refine ⟨_, rl_l eq, _, a1, ?_⟩
          exact h H2 _ sm2 (c1 _ (by omega) hb)
      clear hN
      rw [e1] at eo
      intro t1 H2 nt sm2 et1
      refine ⟨_, rl_t et1, rfl, ?_⟩
      rw [e3, inV_words']
      by_cases q1 : b ∈ (([40, 41, 91, 93, 44, 59, 123, 125, 58].map fun c => S [c]) : List Str)
      · rw [if_pos (decide_eq_true q1)]
        intro q H3 nq sm3 eq
        rw [e2] at eq
        obtain ⟨c, hc, ec⟩ := List.mem_map.mp q1
        exact key H3 q g2 ((sm.trans sm2).trans sm3) eq (fun i _ hb => gap_two i hb (.inl ⟨c, hc, ec.symm⟩)) fun i => ⟨(g2_gap i).1, (g2_gap i).2.1⟩
      rw [if_neg (by simpa using q1)]
      intro t2 H3 nt2 sm3 et2
      refine ⟨_, rl_t et2, rfl, ?_⟩
      rw [e4, inV_words']
      by_cases q2 : a ∈ (([40, 41, 91, 93, 44, 59, 123, 125].map fun c => S [c]) : List Str)
      · rw [if_pos (decide_eq_true q2)]
        intro q H4 nq sm4 eq
        rw [e2] at eq
        obtain ⟨c, hc, ec⟩ := List.mem_map.mp q2
        exact key H4 q g2 (((sm.trans sm2).trans sm3).trans sm4) eq (fun i _ hb => gap_two i hb (.inr ⟨c, hc, ec.symm⟩)) fun i => ⟨(g2_gap i).1, (g2_gap i).2.1⟩
      rw [if_neg (by simpa using q2)]
      exact key H3 o g1 ((sm.trans sm2).trans sm3) ((sm2.trans sm3) _ _ eo) (fun i hi hb => gap_one i hi hb) fun i => ⟨(g1_gap i).1, (g1_gap i).2.1⟩
    · cases h
def spRows (K : PySem.W.Frag) : Sp := fun vs H Q _ => match vs with
  | [.ref a, .int c] => ∃ ns : List Int, SqL K H a (ns.map V.int) ∧ ns.length ≤ 63 ∧ 0 ≤ c ∧ c ≤ 100 ∧ ∀ p H' (rs : List Int), Same H H' → H p = none → H' p = some (.lst (rs.map V.int)) → rs.length = c.toNat → Q (.ref p) H'
  | _ => False
theorem ok_rows (A : At K mg "_law_rows" "_law_rows" s_law_rows ["script", "count"]) (T : Txt K mg) : Has P w K mg base CX0 "_law_rows" 1 ["script", "count"] (spRows K) := by
  have Sc := sc_law_rows
  refine has_of A Sc (fun vs H Q E h => ?_) (fun cdv f A outer s H vs Q E hr h => ?_)
  · unfold spRows at h; split at h; rfl; cases h
  · unfold spRows at h
    split at h
    · rename_i a c
      obtain ⟨ns, hS, hn, h0, h1, k⟩ := h
      refine ⟨_, (pss_cons (ps_set (i := 2) Sc.nd rfl (.inl rfl) (fe_lst pa_nil))
      (pss_cons (ps_for PassesOwn.never rfl (pi_range1 (by rfl) T.no_range (pa_cons (fe_var 1) pa_nil)) (pg_name (i := 3) Sc.nd rfl (.inl rfl)) (pss_cons (ps_set (i := 4) Sc.nd rfl (.inl rfl) pe_int)
      (pss_cons (ps_if (pt_cmpR op_fGt (pe_callB call_fLen (by rfl) T.no_len (by decide +kernel) (pa_cons (fe_var 0) pa_nil)) pe_int (nomark _)) (pss_one (ps_set (i := 4) Sc.nd rfl (.inl rfl) (pe_callTy call_fInt (by rfl) T.no_int (by decide +kernel) (pa_cons (pe_ix ix_fx (fe_var 0) (pe_op op_fMod (pe_callTy call_fInt (by rfl) T.no_int (by decide +kernel) (pa_cons (fe_var 3) pa_nil)) (pe_callB call_fLen (by rfl) T.no_len (by decide +kernel) (pa_cons (fe_var 0) pa_nil))) (fun _ _ => rfl)) pa_nil)))) pss_nil)
      (pss_cons (ps_if (pt_cmpR op_fLt (fe_var 4) pe_int (nomark _)) (pss_one (ps_set (i := 4) Sc.nd rfl (.inl rfl) (pe_op op_fSub pe_int (pe_op op_fMul pe_int (fe_var 4))))) pss_nil)
      (pss_cons (ps_if (PW.pt (pw_or (pt_cmpR op_fGe (fe_var 3) (pe_callB call_fLen (by rfl) T.no_len (by decide +kernel) (pa_cons (fe_var 0) pa_nil)) (nomark _)) (pw_or1 (pt_cmpR op_fLt (fe_var 4) pe_int (nomark _))))) (pss_cons (ps_set (i := 4) Sc.nd rfl (.inl rfl) (pe_op op_fMod (pe_callTy call_fInt (by rfl) T.no_int (by decide +kernel) (pa_cons (pe_op op_fAdd (pe_op op_fMul (pe_op op_fAdd (pe_op op_fAdd (fe_var 4) (pe_op op_fMul pe_int (fe_var 3))) pe_int) pe_int) (pe_op op_fMul (pe_op op_fMul (fe_var 3) (fe_var 3)) pe_int)) pa_nil)) pe_int))
      (pss_one (ps_set (i := 4) Sc.nd rfl (.inl rfl) (pe_op op_fMod (pe_callTy call_fInt (by rfl) T.no_int (by decide +kernel) (pa_cons (pe_op op_fMul (pe_op op_fAdd (pe_op op_fAdd (fe_var 4) (pe_op op_fMul pe_int (fe_var 3))) pe_int) pe_int) pa_nil)) pe_int)))) pss_nil)
      (pss_one (ps_expr (fe_bm PySem.F.plainAttrs_list PySem.F.slot_list_append PySem.F.type_list_append isLst_ty mt_fAppend (fe_var 2) (pa_cons (fe_var 4) pa_nil)))))))))
      (pss_one (ps_ret (fe_var 2))))), ?_⟩
      walk_at "fx0"
      walk_at "fx"
      intro o H0 no sm0 eo0
      refine for_ ?_
      walk_at "fx"
      refine ⟨by omega, by omega, loop_range (fun i σ H' => ∃ (rs : List Int) (v3 v4 : Option V), σ = [some (.ref a), some (.int c), some (.ref o), v3, v4] ∧ Same H H' ∧ H' o = some (.lst (rs.map V.int)) ∧ rs.length = i)
        ⟨[], none, none, rfl, sm0, eo0, rfl⟩ ?_ ?_⟩
      · rintro i σ H' hi ⟨rs, v3, v4, rfl, sm, eo, hl⟩
        have hS' := sm.seq hS
        walk_at "fx"
        refine cut_ fun N hN => ifs_ ?_
        walk_at "fx"
        refine ⟨_, .inl hS', ?_⟩
        rw [List.length_map]
        have key : ∀ x : Int, N [some (.ref a), some (.int c), some (.ref o), some (.int (i : Int)), some (.int x)] H' := fun x => hN _ _ ?_
        · split
          · refine ⟨_, .inl hS', by rw [List.length_map]; omega, _, .inl hS', ?_⟩
            rw [List.length_map]
            obtain ⟨z, ez⟩ := at_ints (ns := ns) (i := (i : Int) % (ns.length : Int)) (Int.emod_nonneg _ (by omega)) (Int.emod_lt_of_pos _ (by omega))
            exact ⟨_, ez, key z⟩
          · exact key 0
        · clear hN N
          walk_at "fx"
          refine cut_ fun N hN => ifs_ ?_
          walk_at "fx"
          have key : ∀ x : Int, N [some (.ref a), some (.int c), some (.ref o), some (.int (i : Int)), some (.int x)] H' := fun x => hN _ _ ?_
          · split
            · exact ⟨mul_left (by decide) (by decide), key _⟩
            · exact key _
          · clear hN N
            walk_at "fx"
            refine cut_ fun N hN => ifs_ ?_
            walk_at "fx"
            have key : ∀ x : Int, N [some (.ref a), some (.int c), some (.ref o), some (.int (i : Int)), some (.int x)] H' := fun x => hN _ _ ?_
            · refine ⟨_, .inl hS', ?_⟩
              have q : ∀ y, IntMulOk (i : Int) (i : Int) ∧ y → y := fun _ h => h.2
              have m1 : IntMulOk (i : Int) (i : Int) := by walk_at "mul"
              have m2 : IntMulOk (((x + 131 * (i : Int) + 7) * 48271 + (i : Int) * (i : Int) * 69621) % 1000000007 + 17 * (i : Int) + 3) 2862933555777941757 := by walk_at "mul"
              split
              · exact ⟨by walk_at "mul", by walk_at "mul", m1, by walk_at "mul", by walk_at "mul", m2, key _⟩
              · split
                · exact ⟨by walk_at "mul", by walk_at "mul", m1, by walk_at "mul", by walk_at "mul", m2, key _⟩
                · exact key _
            · clear hN N
              walk_at "fx"
              simp only [eo]
              refine ⟨trivial, ?_, same_mut sm no, rs ++ [x], ?_, ?_⟩
              · rw [List.length_map]; exact len_line' (by omega)
              · rw [List.map_append]; rfl
              · rw [List.length_append, hl]; rfl
      · rintro σ H' ⟨rs, v3, v4, rfl, sm, eo, hl⟩
        walk_at "fx"
        exact k o H' rs sm no eo hl
    · cases h
end

section
variable {P : Program} {w : World} {K : PySem.W.Frag} {mg : Str → Option Value} {base : Heap}
def spLWrong : Sp := fun vs H Q _ => match vs with
  | [.int r] => ∀ o H1 w (off : Nat) m, H o = none → Same H H1 → H1 o = some (.lst [.str (S w), .int off, .str m]) → w.length ≤ 400 → Wrong (decide (r % 8 = 5 ∨ r % 8 = 7)) w off m → Q (.ref o) H1
  | _ => False
theorem inner_S {n k : Int} (h0 : 0 ≤ n) (h1 : n < 5) (h2 : 0 ≤ k) (h3 : k < 2) : cutS (Str.ofString "ab c") none (some n) ++ cutS (Str.ofString "\\\\") none (some (2 * k)) = S (spell (inners n.toNat k.toNat)) := by
  have e1 : Str.ofString "ab c" = S [97, 98, 32, 99] := by decide +kernel
  have e2 : Str.ofString "\\\\" = S [92, 92] := by decide +kernel
  rw [e1, e2, inners_spell _ _ (by omega) (by omega)]
  have n1 : n = 0 ∨ n = 1 ∨ n = 2 ∨ n = 3 ∨ n = 4 := by omega
  have k1 : k = 0 ∨ k = 1 := by omega
  rcases n1 with rfl | rfl | rfl | rfl | rfl <;> rcases k1 with rfl | rfl <;> decide +kernel
theorem inner_L {n k : Int} (h0 : 0 ≤ n) (h1 : n < 5) (h2 : 0 ≤ k) (h3 : k < 2) : (cutS (Str.ofString "ab c") none (some n)).length + (cutS (Str.ofString "\\\\") none (some (2 * k))).length ≤ 6 := by
  have n1 : n = 0 ∨ n = 1 ∨ n = 2 ∨ n = 3 ∨ n = 4 := by omega
  have k1 : k = 0 ∨ k = 1 := by omega
  rcases n1 with rfl | rfl | rfl | rfl | rfl <;> rcases k1 with rfl | rfl <;> decide +kernel
theorem ok_lwrong (A : At K mg "_law_wrong" "_law_wrong" s_law_wrong ["row"]) (T : Txt K mg) : Has P w K mg base CX0 "_law_wrong" 1 ["row"] spLWrong := by
  have Sc := sc_law_wrong
  refine has_of A Sc (fun vs H Q E h => ?_) (fun cdv f A outer s H vs Q E hr h => ?_)
  · unfold spLWrong at h; split at h; rfl; cases h
  · unfold spLWrong at h
    split at h
    · rename_i r
      refine ⟨_, (pss_cons (ps_set (i := 1) Sc.nd rfl (.inl rfl) (pe_op op_fDiv (fe_var 0) pe_int))
      (pss_cons (ps_if (pt_cmpR op_fLt (pe_op op_fMod (fe_var 0) pe_int) pe_int (nomark _)) (pss_cons (ps_set (i := 2) Sc.nd rfl (.inl rfl) (fe_lst (pa_cons pe_str (pa_cons pe_str (pa_cons pe_str (pa_cons pe_str (pa_cons pe_str (pa_cons pe_str (pa_cons pe_str (pa_cons pe_str (pa_cons pe_str (pa_cons pe_str (pa_cons pe_str (pa_cons pe_str pa_nil))))))))))))))
      (pss_one (ps_ret (fe_lst (pa_cons (pe_op op_fAdd (pe_ix ix_fx (fe_var 2) (pe_op op_fMod (pe_callTy call_fInt (by rfl) T.no_int (by decide +kernel) (pa_cons (fe_var 1) pa_nil)) pe_int) (fun _ _ => rfl)) pe_str) (pa_cons pe_int (pa_cons pe_str pa_nil))))))) pss_nil)
      (pss_cons (ps_if (pt_cmpR (op_fEq hr.units) (pe_op op_fMod (fe_var 0) pe_int) pe_int (nomark _)) (pss_one (ps_ret (fe_lst (pa_cons (pe_op op_fAdd (pe_op op_fAdd (pe_op op_fAdd (pe_op op_fMul pe_str (pe_op op_fMod (pe_callTy call_fInt (by rfl) T.no_int (by decide +kernel) (pa_cons (fe_var 1) pa_nil)) pe_int)) pe_str) (pe_op op_fMul pe_str (pe_op op_fAdd pe_int (pe_op op_fMod (pe_callTy call_fInt (by rfl) T.no_int (by decide +kernel) (pa_cons (pe_op op_fDiv (fe_var 1) pe_int) pa_nil)) pe_int)))) pe_str) (pa_cons pe_int (pa_cons pe_str pa_nil)))))) pss_nil)
      (pss_cons (ps_set (i := 3) Sc.nd rfl (.inl rfl) (pe_op op_fAdd (pe_slice sl_fx pe_str po_none (po_some (pe_op op_fMod (pe_callTy call_fInt (by rfl) T.no_int (by decide +kernel) (pa_cons (fe_var 1) pa_nil)) pe_int))) (pe_slice sl_fx pe_str po_none (po_some (pe_op op_fMul pe_int (pe_op op_fMod (pe_callTy call_fInt (by rfl) T.no_int (by decide +kernel) (pa_cons (pe_op op_fDiv (fe_var 1) pe_int) pa_nil)) pe_int))))))
      (pss_cons (ps_if (pt_cmpR (op_fEq hr.units) (pe_op op_fMod (fe_var 0) pe_int) pe_int (nomark _)) (pss_cons (ps_set (i := 2) Sc.nd rfl (.inl rfl) pe_str)
      (pss_one (ps_ret (fe_lst (pa_cons (pe_op op_fAdd (pe_op op_fAdd (pe_op op_fAdd (pe_op op_fAdd pe_str (fe_var 3)) pe_str) (pe_ix ix_fx (fe_var 2) (pe_op op_fMod (pe_callTy call_fInt (by rfl) T.no_int (by decide +kernel) (pa_cons (pe_op op_fDiv (fe_var 1) pe_int) pa_nil)) pe_int) (fun _ _ => rfl))) pe_str) (pa_cons (pe_op op_fAdd pe_int (pe_callB call_fLen (by rfl) T.no_len (by decide +kernel) (pa_cons (fe_var 3) pa_nil))) (pa_cons pe_str pa_nil))))))) pss_nil)
      (pss_cons (ps_if (pt_cmpR (op_fEq hr.units) (pe_op op_fMod (fe_var 0) pe_int) pe_int (nomark _)) (pss_one (ps_ret (fe_lst (pa_cons (pe_op op_fAdd (pe_op op_fAdd pe_str (fe_var 3)) pe_str) (pa_cons pe_int (pa_cons pe_str pa_nil)))))) pss_nil)
      (pss_cons (ps_if (pt_cmpR (op_fEq hr.units) (pe_op op_fMod (fe_var 0) pe_int) pe_int (nomark _)) (pss_one (ps_ret (fe_lst (pa_cons (pe_op op_fAdd pe_str (fe_var 3)) (pa_cons pe_int (pa_cons pe_str pa_nil)))))) pss_nil)
      (pss_cons (ps_if (pt_cmpR (op_fEq hr.units) (pe_op op_fMod (fe_var 0) pe_int) pe_int (nomark _)) (pss_one (ps_ret (fe_lst (pa_cons (pe_op op_fAdd (pe_op op_fAdd pe_str (fe_var 3)) pe_str) (pa_cons (pe_op op_fAdd pe_int (pe_callB call_fLen (by rfl) T.no_len (by decide +kernel) (pa_cons (fe_var 3) pa_nil))) (pa_cons pe_str pa_nil)))))) pss_nil)
      (pss_one (ps_ret (fe_lst (pa_cons (pe_op op_fAdd (pe_op op_fAdd pe_str (fe_var 3)) pe_str) (pa_cons pe_int (pa_cons pe_str pa_nil)))))))))))))), ?_⟩
      walk_at "fx0"
      walk_at "fx"
      refine ⟨small_div (by decide) (by decide), ?_⟩
      generalize r / 8 = x
      have r0 := emod_lo r (m := 8) (by decide)
      have r1 := emod_hi r (m := 8) (by decide)
      refine cut_ fun N hN => ifs_ ?_
      walk_at "fx"
      by_cases k1 : r % 8 < 2
      · rw [if_pos k1]
        intro t H2 nt sm2 et
        have ec : ([V.str (Str.ofString "#"), V.str (Str.ofString "&"), V.str (Str.ofString "@"), V.str (Str.ofString "!"), V.str (Str.ofString "?"), V.str (Str.ofString "~"), V.str (Str.ofString "^"), V.str (Str.ofString "|"), V.str (Str.ofString "$"),
          V.str (Str.ofString "'"), V.str (Str.ofString "\\"), V.str (Str.ofString "`")] : List V) = (([35, 38, 64, 33, 63, 126, 94, 124, 36, 39, 92, 96].map fun c => S [c]) : List Str).map V.str := by decide +kernel
        rw [ec] at et
        obtain ⟨z, hz, a1⟩ := at_strs (ns := [35, 38, 64, 33, 63, 126, 94, 124, 36, 39, 92, 96].map fun c => S [c]) (emod_lo x (m := 12) (by decide)) (emod_hi x (m := 12) (by decide))
        obtain ⟨c, hc, rfl⟩ := List.mem_map.mp hz
        refine ⟨_, rl_l et, _, a1, ?_⟩
        have e32 : Str.ofString " " = S [32] := by decide +kernel
        simp only [e32, S_len, S_app]
        refine ⟨len_line (by simp), fun o H3 no sm3 eo => ?_⟩
        have hw := wrong_char hc
        have hd : decide (r % 8 = 5 ∨ r % 8 = 7) = false := decide_eq_false (by omega)
        rw [← hd] at hw
        exact h o H3 [c, 32] 0 _ (sm2.free no) (sm2.trans sm3) eo (by simp) hw
      rw [if_neg k1]
      refine hN _ _ ?_
      clear hN N
      walk_at "fx"
      refine cut_ fun N hN => ifs_ ?_
      walk_at "fx"
      by_cases k2 : r % 8 = 2
      · rw [if_pos k2]
        have z0 := emod_lo x (m := 4) (by decide)
        have z1 := emod_hi x (m := 4) (by decide)
        have w0 := emod_lo (x / 4) (m := 3) (by decide)
        have w1 := emod_hi (x / 4) (m := 3) (by decide)
        obtain ⟨z, hz⟩ := Int.eq_ofNat_of_zero_le z0
        obtain ⟨q, hq⟩ := Int.eq_ofNat_of_zero_le w0
        have m1 : MulOk (Str.ofString "0") (x % 4) ∧ Txt.mul (Str.ofString "0") (x % 4) = S (List.replicate z 48) := by
          rw [hz] at z1 ⊢
          have : z = 0 ∨ z = 1 ∨ z = 2 ∨ z = 3 := by omega
          rcases this with rfl | rfl | rfl | rfl
          · exact ⟨by unfold MulOk; decide +kernel, by decide +kernel⟩
          · exact ⟨by unfold MulOk; decide +kernel, by decide +kernel⟩
          · exact ⟨by unfold MulOk; decide +kernel, by decide +kernel⟩
          · exact ⟨by unfold MulOk; decide +kernel, by decide +kernel⟩
        have m2 : MulOk (Str.ofString "0") (300 + x / 4 % 3) ∧ Txt.mul (Str.ofString "0") (300 + x / 4 % 3) = S (List.replicate (300 + q) 48) := by
          rw [hq] at w1 ⊢
          have : q = 0 ∨ q = 1 ∨ q = 2 := by omega
          rcases this with rfl | rfl | rfl
          · exact ⟨by unfold MulOk; decide +kernel, by decide +kernel⟩
          · exact ⟨by unfold MulOk; decide +kernel, by decide +kernel⟩
          · exact ⟨by unfold MulOk; decide +kernel, by decide +kernel⟩
        have e49 : Str.ofString "1" = S [49] := by decide +kernel
        have e32 : Str.ofString " " = S [32] := by decide +kernel
        simp only [m1.2, m2.2, e49, e32, S_len, S_app, List.length_append, List.length_replicate, List.length_cons, List.length_nil]
        refine ⟨m1.1, len_line (by omega), small_div (by decide) (by decide), m2.1, len_line (by omega), len_line (by omega), fun o H3 no sm3 eo => ?_⟩
        have hw := wrong_num z q
        have hd : decide (r % 8 = 5 ∨ r % 8 = 7) = false := decide_eq_false (by omega)
        rw [← hd] at hw
        have eb : List.replicate z 48 ++ [49] ++ List.replicate (300 + q) 48 ++ [32] = bigNum z q ++ [32] := by unfold bigNum; simp
        rw [eb] at eo
        exact h o H3 _ 0 _ no sm3 eo (by unfold bigNum; simp; omega) hw
      rw [if_neg k2]
      refine hN _ _ ?_
      clear hN N
      walk_at "fx"
      have n0 := emod_lo x (m := 5) (by decide)
      have n1 := emod_hi x (m := 5) (by decide)
      have v0 := emod_lo (x / 5) (m := 2) (by decide)
      have v1 := emod_hi (x / 5) (m := 2) (by decide)
      have es := inner_S n0 n1 v0 v1
      have el := inner_L n0 n1 v0 v1
      rw [es]
      have hin := inners_ok (x % 5).toNat (x / 5 % 2).toNat
      have hil := inners_len (x % 5).toNat (x / 5 % 2).toNat (by omega) (by omega)
      generalize inners (x % 5).toNat (x / 5 % 2).toNat = t at hin hil
      refine ⟨len_line (by decide), small_div (by decide) (by decide), by walk_at "mul", len_line (by decide), len_line (by omega), ?_⟩
      have e34 : Str.ofString "\"" = S [34] := by decide +kernel
      have e92 : Str.ofString "\\" = S [92] := by decide +kernel
      have e10 : Str.ofString "\n" = S [10] := by decide +kernel
      have e3432 : Str.ofString "\" " = S [34, 32] := by decide +kernel
      have e9 : Str.ofString "\t\" " = S [9, 34, 32] := by decide +kernel
      refine cut_ fun N hN => ifs_ ?_
      walk_at "fx"
      by_cases k3 : r % 8 = 3
      · rw [if_pos k3]
        have a1 : ∃ d, esc d = none ∧ atI (Str.ofString "aqtN0 '\n").cps.toList (x / 10 % 8) = some d := by
          have hm : ∀ d ∈ [97, 113, 116, 78, 48, 32, 39, 10], esc d = none := by decide
          have hd : [97, 113, 116, 78, 48, 32, 39, 10].getD (x / 10 % 8).toNat 0 ∈ [97, 113, 116, 78, 48, 32, 39, 10] := getD_mem _ (by have := emod_lo (x / 10) (m := 8) (by decide); have := emod_hi (x / 10) (m := 8) (by decide); show _ < 8; omega)
          exact ⟨_, hm _ hd, at_getN (ns := [97, 113, 116, 78, 48, 32, 39, 10]) 0 (emod_lo (x / 10) (by decide)) (emod_hi (x / 10) (m := 8) (by decide))⟩
        obtain ⟨d, hd, a1⟩ := a1
        simp only [e34, e92, e3432, S_one, S_app, S_len, List.length_append, List.length_cons, List.length_nil]
        refine ⟨len_line (by omega), len_line (by omega), small_div (by decide) (by decide), len_line (by decide +kernel), d, a1, len_line (by omega), len_line (by omega), len_line (by omega), fun o H3 no sm3 eo => ?_⟩
        have hw := wrong_esc hin hd [34, 32]
        have hd : decide (r % 8 = 5 ∨ r % 8 = 7) = false := decide_eq_false (by omega)
        rw [← hd] at hw
        have eb : [34] ++ spell t ++ [92] ++ [d] ++ [34, 32] = 34 :: (spell t ++ 92 :: d :: [34, 32]) := by simp
        rw [eb] at eo
        refine h o H3 _ (1 + (spell t).length) _ no sm3 ?_ (by simp; omega) hw
        rw [Int.natCast_add]
        exact eo
      rw [if_neg k3]
      refine hN _ _ ?_
      clear hN N
      walk_at "fx"
      refine cut_ fun N hN => ifs_ ?_
      walk_at "fx"
      by_cases k4 : r % 8 = 4
      · rw [if_pos k4]
        simp only [e34, e10, S_one, S_app, S_len, List.length_append, List.length_cons, List.length_nil]
        refine ⟨len_line (by omega), len_line (by omega), fun o H3 no sm3 eo => ?_⟩
        have hw := wrong_nl hin
        have hd : decide (r % 8 = 5 ∨ r % 8 = 7) = false := decide_eq_false (by omega)
        rw [← hd] at hw
        exact h o H3 _ 0 _ no sm3 eo (by simp; omega) hw
      rw [if_neg k4]
      refine hN _ _ ?_
      clear hN N
      walk_at "fx"
      refine cut_ fun N hN => ifs_ ?_
      walk_at "fx"
      by_cases k5 : r % 8 = 5
      · rw [if_pos k5]
        simp only [e34, S_one, S_app, S_len, List.length_append, List.length_cons, List.length_nil]
        refine ⟨len_line (by omega), fun o H3 no sm3 eo => ?_⟩
        have hw := wrong_fin hin
        have hd : decide (r % 8 = 5 ∨ r % 8 = 7) = true := decide_eq_true (by omega)
        rw [← hd] at hw
        exact h o H3 _ 0 _ no sm3 eo (by simp; omega) hw
      rw [if_neg k5]
      refine hN _ _ ?_
      clear hN N
      walk_at "fx"
      refine cut_ fun N hN => ifs_ ?_
      walk_at "fx"
      by_cases k6 : r % 8 = 6
      · rw [if_pos k6]
        simp only [e34, e9, S_one, S_app, S_len, List.length_append, List.length_cons, List.length_nil]
        refine ⟨len_line (by omega), len_line (by omega), len_line (by omega), fun o H3 no sm3 eo => ?_⟩
        have hw := wrong_tab hin [34, 32]
        have hd : decide (r % 8 = 5 ∨ r % 8 = 7) = false := decide_eq_false (by omega)
        rw [← hd] at hw
        have eb : [34] ++ spell t ++ [9, 34, 32] = 34 :: (spell t ++ 9 :: [34, 32]) := by simp
        rw [eb] at eo
        refine h o H3 _ (1 + (spell t).length) _ no sm3 ?_ (by simp; omega) hw
        rw [Int.natCast_add]
        exact eo
      rw [if_neg k6]
      refine hN _ _ ?_
      clear hN N
      walk_at "fx"
      simp only [e34, e92, S_one, S_app, S_len, List.length_append, List.length_cons, List.length_nil]
      refine ⟨len_line (by omega), len_line (by omega), fun o H3 no sm3 eo => ?_⟩
      have hw := wrong_bs hin
      have hd : decide (r % 8 = 5 ∨ r % 8 = 7) = true := decide_eq_true (by omega)
      rw [← hd] at hw
      exact h o H3 _ 0 _ no sm3 eo (by simp; omega) hw
    · cases h
def Leaf : V → Prop
  | .int _ => True
  | .str _ => True
  | .non => True
  | .bl _ => True
  | _ => False
/-- alike as data, of lists and tuples within n levels -/
def Alk : Nat → Hp → V → V → Prop
  | 0, _, x, y => x = y ∧ Leaf x
  | n + 1, H, x, y => (x = y ∧ Leaf x) ∨ ∃ (a b : Addr) (xs ys : List V), x = .ref a ∧ y = .ref b ∧ ((H a = some (.lst xs) ∧ H b = some (.lst ys)) ∨ (H a = some (.tup xs) ∧ H b = some (.tup ys))) ∧ xs.length = ys.length ∧ xs.length ≤ 100000 ∧
      ∀ (i : Nat) u v, xs[i]? = some u → ys[i]? = some v → Alk n H u v
theorem Alk.same {H H' : Hp} (s : Same H H') : ∀ {n : Nat} {x y : V}, Alk n H x y → Alk n H' x y
  | 0, _, _, h => h
  | n + 1, x, y, h => by
    rcases h with h | ⟨a, b, xs, ys, rfl, rfl, h1, h2, h3, h4⟩
    · exact .inl h
    · refine .inr ⟨a, b, xs, ys, rfl, rfl, ?_, h2, h3, fun i u v hu hv => (h4 i u v hu hv).same s⟩
      rcases h1 with h1 | h1
      · exact .inl ⟨s _ _ h1.1, s _ _ h1.2⟩
      · exact .inr ⟨s _ _ h1.1, s _ _ h1.2⟩
def spLike : Nat → Sp
  | 0 => spNone
  | n + 1 => fun vs H Q _ => match vs with
    | [x, y] => Alk n H x y ∧ ∀ H1, Same H H1 → Q (.bl true) H1
    | _ => False
theorem ok_llike (A : At K mg "_law_like" "_law_like" s_law_like ["told", "due"]) (T : Txt K mg) : ∀ n, Has P w K mg base CX0 "_law_like" n ["told", "due"] (spLike n) := by
  intro n
  have Sc := sc_law_like
  induction n with
  | zero => exact A.never
  | succ n H_law_like =>
    refine has_of A Sc (fun vs H Q E h => ?_) (fun cdv f A outer s H vs Q E hr h => ?_)
    · dsimp only [spLike] at h; split at h; rfl; cases h
    · dsimp only [spLike] at h
      split at h
      · rename_i x y
        obtain ⟨h1, k⟩ := h
        refine ⟨_, (pss_cons (ps_if (pt_val (pe_callB call_fIsi (by rfl) T.no_isinstance (by decide +kernel) (pa_cons (fe_var 1) (pa_cons (fe_tup (pa_cons (fe_ty (n := "list") (by rfl) T.no_list (by decide +kernel)) (pa_cons (fe_ty (n := "tuple") (by rfl) T.no_tuple (by decide +kernel)) pa_nil))) pa_nil)))) (pss_cons (ps_if (PW.pt (pw_or (pt_cmpR (op_fNe hr.units) (pe_callB call_fIsi (by rfl) T.no_isinstance (by decide +kernel) (pa_cons (fe_var 0) (pa_cons (fe_ty (n := "list") (by rfl) T.no_list (by decide +kernel)) pa_nil))) (pe_callB call_fIsi (by rfl) T.no_isinstance (by decide +kernel) (pa_cons (fe_var 1) (pa_cons (fe_ty (n := "list") (by rfl) T.no_list (by decide +kernel)) pa_nil))) (nomark _)) (pw_or1 (pt_cmpR (op_fNe hr.units) (pe_callB call_fIsi (by rfl) T.no_isinstance (by decide +kernel) (pa_cons (fe_var 0) (pa_cons (fe_ty (n := "tuple") (by rfl) T.no_tuple (by decide +kernel)) pa_nil))) (pe_callB call_fIsi (by rfl) T.no_isinstance (by decide +kernel) (pa_cons (fe_var 1) (pa_cons (fe_ty (n := "tuple") (by rfl) T.no_tuple (by decide +kernel)) pa_nil))) (nomark _))))) (pss_one (ps_ret pe_bl)) pss_nil)
      (pss_cons (ps_if (pt_cmpR (op_fNe hr.units) (pe_callB call_fLen (by rfl) T.no_len (by decide +kernel) (pa_cons (fe_var 0) pa_nil)) (pe_callB call_fLen (by rfl) T.no_len (by decide +kernel) (pa_cons (fe_var 1) pa_nil)) (nomark _)) (pss_one (ps_ret pe_bl)) pss_nil)
      (pss_cons (ps_for PassesOwn.never rfl (pi_range1 (by rfl) T.no_range (pa_cons (pe_callB call_fLen (by rfl) T.no_len (by decide +kernel) (pa_cons (fe_var 1) pa_nil)) pa_nil)) (pg_name (i := 2) Sc.nd rfl (.inl rfl)) (pss_one (ps_if (pt_not (pt_val (fe_call H_law_like (hr.mono (by walk_at "rm")) (by rfl) pass0 (pa_cons (pe_ix ix_fx (fe_var 0) (fe_var 2) (fun _ _ => rfl)) (pa_cons (pe_ix ix_fx (fe_var 1) (fe_var 2) (fun _ _ => rfl)) pa_nil))))) (pss_one (ps_ret pe_bl)) pss_nil)))
      (pss_one (ps_ret pe_bl))))) pss_nil)
      (pss_cons (ps_if (pt_cmpR op_fIsN (fe_var 1) pe_non (nomark _)) (pss_one (ps_ret (pe_cmpR op_fIsN (fe_var 0) pe_non (nomark _)))) pss_nil)
      (pss_cons (ps_if (pt_val (pe_callB call_fIsi (by rfl) T.no_isinstance (by decide +kernel) (pa_cons (fe_var 1) (pa_cons (fe_ty (n := "bool") (by rfl) T.no_bool (by decide +kernel)) pa_nil)))) (pss_one (ps_ret (pe_and (pe_callB call_fIsi (by rfl) T.no_isinstance (by decide +kernel) (pa_cons (fe_var 0) (pa_cons (fe_ty (n := "bool") (by rfl) T.no_bool (by decide +kernel)) pa_nil))) (pe_one (pe_cmpR (op_fEq hr.units) (fe_var 0) (fe_var 1) (nomark _)))))) pss_nil)
      (pss_cons (ps_if (pt_val (pe_callB call_fIsi (by rfl) T.no_isinstance (by decide +kernel) (pa_cons (fe_var 1) (pa_cons (fe_ty (n := "int") (by rfl) T.no_int (by decide +kernel)) pa_nil)))) (pss_one (ps_ret (pe_and (pe_callB call_fIsi (by rfl) T.no_isinstance (by decide +kernel) (pa_cons (fe_var 0) (pa_cons (fe_ty (n := "int") (by rfl) T.no_int (by decide +kernel)) pa_nil))) (pe_and (pe_not (pe_callB call_fIsi (by rfl) T.no_isinstance (by decide +kernel) (pa_cons (fe_var 0) (pa_cons (fe_ty (n := "bool") (by rfl) T.no_bool (by decide +kernel)) pa_nil)))) (pe_one (pe_cmpR (op_fEq hr.units) (fe_var 0) (fe_var 1) (nomark _))))))) pss_nil)
      (pss_one (ps_ret (pe_and (pe_callB call_fIsi (by rfl) T.no_isinstance (by decide +kernel) (pa_cons (fe_var 0) (pa_cons (fe_ty (n := "str") (by rfl) T.no_str (by decide +kernel)) pa_nil))) (pe_one (pe_cmpR (op_fEq hr.units) (fe_var 0) (fe_var 1) (nomark _)))))))))), ?_⟩
        walk_at "fx0"
        walk_at "fx"
        have h1 : (x = y ∧ Leaf x) ∨ ∃ m, n = m + 1 ∧ ∃ (a b : Addr) (xs ys : List V), x = .ref a ∧ y = .ref b ∧ ((H a = some (.lst xs) ∧ H b = some (.lst ys)) ∨ (H a = some (.tup xs) ∧ H b = some (.tup ys))) ∧ xs.length = ys.length ∧ xs.length ≤ 100000 ∧
            ∀ (i : Nat) u v, xs[i]? = some u → ys[i]? = some v → Alk m H u v := by
          cases n with
          | zero => exact .inl h1
          | succ m =>
            rcases h1 with h1 | h1
            · exact .inl h1
            · exact .inr ⟨m, rfl, h1⟩
        rcases h1 with ⟨rfl, hL⟩ | ⟨m, rfl, a, b, xs, ys, rfl, rfl, h2, h3, h4, h5⟩
        · have leaf : ∀ H1, Same H H1 → tIfS (tB (tCB fIsi (tCons (fVar 1) (tCons (tC (V.ty "bool")) tNil)))) tNext tNext { nx := fun _ _ => True, rt := Q } [some x, some x, none] H1 → True := fun _ _ _ => trivial
          refine cut_ fun N hN => ifs_ ?_
          walk_at "fx"
          intro p H1 np sm ep
          cases x <;> first
            | exact hL.elim
            | (simp only [ep]
               walk_at "fx"
               refine hN _ _ ?_
               clear hN N
               walk_at "fx"
               refine cut_ fun N hN => ifs_ ?_
               walk_at "fx"
               try simp only [reduceCtorEq, if_false]
               first
                 | exact k H1 sm
                 | (refine hN _ _ ?_
                    clear hN N
                    walk_at "fx"
                    refine cut_ fun N hN => ifs_ ?_
                    walk_at "fx"
                    first
                      | exact k H1 sm
                      | (refine hN _ _ ?_
                         clear hN N
                         walk_at "fx"
                         refine cut_ fun N hN => ifs_ ?_
                         walk_at "fx"
                         first
                           | exact k H1 sm
                           | (refine hN _ _ ?_
                              clear hN N
                              walk_at "fx"
                              exact k H1 sm))))
        · refine cut_ fun N hN => ifs_ ?_
          walk_at "fx"
          intro p H1 np sm ep
          simp only [ep]
          walk_at "fx"
          rcases h2 with ⟨ha, hb⟩ | ⟨ha, hb⟩
          all_goals
            have ra : Rl K H1 a xs := by first | exact rl_l (sm _ _ ha) | exact rl_t (sm _ _ ha)
            have rb : Rl K H1 b ys := by first | exact rl_l (sm _ _ hb) | exact rl_t (sm _ _ hb)
            have rS : ∀ H2, Same H1 H2 → Rl K H2 a xs ∧ Rl K H2 b ys := fun H2 s2 => by
              first
                | exact ⟨rl_l (s2 _ _ (sm _ _ ha)), rl_l (s2 _ _ (sm _ _ hb))⟩
                | exact ⟨rl_t (s2 _ _ (sm _ _ ha)), rl_t (s2 _ _ (sm _ _ hb))⟩
            simp only [sm _ _ ha, sm _ _ hb]
            walk_at "fx"
            refine cut_ fun N2 hN2 => ifs_ ?_
            walk_at "fx"
            simp only [sm _ _ ha, sm _ _ hb]
            walk_at "fx"
            refine hN2 _ _ ?_
            clear hN2 N2 ha hb
            walk_at "fx"
            refine cut_ fun N2 hN2 => ifs_ ?_
            walk_at "fx"
            refine ⟨_, ra, _, rb, ?_⟩
            rw [if_neg (by rw [h3]; exact fun h => h rfl)]
            refine hN2 _ _ ?_
            clear hN2 N2
            walk_at "fx"
            refine for_ ?_
            walk_at "fx"
            refine ⟨_, rb, by omega, by omega, ?_⟩
            refine loop_range (fun i σ H2 => Same H1 H2 ∧ ∃ v, σ = [some (.ref a), some (.ref b), v]) ⟨Same.refl _, none, rfl⟩ ?_ ?_
            · rintro i σ H2 hi ⟨s2, v, rfl⟩
              have hi2 : i < ys.length := hi
              obtain ⟨ra2, rb2⟩ := rS H2 s2
              have ex : xs[i]? = some xs[i] := List.getElem?_eq_getElem (by omega)
              have ey : ys[i]? = some ys[i] := List.getElem?_eq_getElem hi2
              walk_at "fx"
              refine ifs_ ?_
              walk_at "fx"
              refine ⟨_, ra2, _, atI_nat ex, _, rb2, _, atI_nat ey, ?_⟩
              dsimp only [spLike]
              refine ⟨(h5 i _ _ ex ey).same (sm.trans s2), fun H3 s3 => ?_⟩
              walk_at "fx"
              exact ⟨s2.trans s3, _, rfl⟩
            · rintro σ H2 ⟨s2, v, rfl⟩
              walk_at "fx"
              exact k H2 (sm.trans s2)
      · cases h
end

section
variable {P : Program} {w : World} {K : PySem.W.Frag} {mg : Str → Option Value} {base : Heap}
def spLaw (K : PySem.W.Frag) : Sp := fun vs H Q _ => ∃ (a : Addr) (ns : List Int), vs = [.ref a] ∧ SqL K H a (ns.map V.int) ∧ ns.length ≤ 63 ∧ (∀ z ∈ ns, Builtin.Int.intBits z ≤ 1048576) ∧ ∀ H', Q (.bl true) H'
structure LawI (a rp dp : Addr) (rs : List Int) (H0 : Hp) (i : Nat) (σ : L2.St) (H : Hp) : Prop where
  ex : ∃ (gs : List Seg) (b : Str) (v5 v6 : Option V), σ = [some (.ref a), some (.ref rp), some (.str (S (cat gs))), some (.ref dp), some (.str b), v5, v6, none] ∧ Linked gs ∧ (∀ t, gs.head? = some t → b = S t.p) ∧ (cat gs).length ≤ 340 * i ∧
    TokList H dp (dues gs) ∧ gs.length = i ∧ Same H0 H
structure MoreI (a rp dp : Addr) (t0 : List Nat) (b : Str) (v6 : Option V) (wp : Addr) (H0 : Hp) (i : Nat) (σ : L2.St) (H : Hp) : Prop where
  ex : ∃ (m : List Nat) (v5 : Option V), σ = [some (.ref a), some (.ref rp), some (.str (S (t0 ++ m))), some (.ref dp), some (.str b), v5, v6, some (.ref wp)] ∧ m.length ≤ 340 * i ∧ Same H0 H
theorem pv_all {gs : List Seg} (h : Linked gs) {n : Nat} {k m : Str} : ∀ t ∈ dues gs ++ [(k, n, V.str m)], PV t.2.2 := by
  intro t ht
  rcases List.mem_append.mp ht with h1 | h1
  · induction gs with
    | nil => cases h1
    | cons s r ih =>
      obtain ⟨⟨_, hp⟩, _, hl⟩ := h
      rcases List.mem_append.mp (show t ∈ dues r ++ [(s.k, (cat r ++ s.g).length, s.v)] from h1) with h2 | h2
      · exact ih hl (List.mem_append_left _ h2) h2
      · rw [List.mem_singleton.mp h2]; exact hp.pv
  · rw [List.mem_singleton.mp h1]; trivial
theorem pv_leaf {v : V} (h : PV v) : Leaf v := by cases v <;> first | trivial | exact h.elim
theorem tl_alk {H : Hp} {p q : Addr} {ts : List Tk.Tok} (h1 : TokList H p ts) (h2 : TokList H q ts) (pv : ∀ t ∈ ts, PV t.2.2) (hl : ts.length ≤ 100000) : Alk 2 H (.ref p) (.ref q) := by
  obtain ⟨as, e1, e2, e3⟩ := h1.ex
  obtain ⟨bs, f1, f2, f3⟩ := h2.ex
  refine .inr ⟨p, q, _, _, rfl, rfl, .inl ⟨e1, f1⟩, by simp [e2, f2], by simp [e2, hl], fun i u v hu hv => ?_⟩
  rw [List.getElem?_map] at hu hv
  obtain ⟨a, ha, rfl⟩ := Option.map_eq_some_iff.mp hu
  obtain ⟨b, hb, rfl⟩ := Option.map_eq_some_iff.mp hv
  have hlt := (List.getElem?_eq_some_iff.mp ha).1
  have ht : ts[i]? = some ts[i] := List.getElem?_eq_getElem (by omega)
  have t1 := e3 i a _ ha ht
  have t2 := f3 i b _ hb ht
  have pvi := pv _ (List.getElem_mem (by omega : i < ts.length))
  unfold IsTok at t1 t2
  refine .inr ⟨a, b, _, _, rfl, rfl, .inr ⟨t1, t2⟩, rfl, by simp, fun j u v hu hv => ?_⟩
  have e : u = v := by rw [hu] at hv; exact Option.some.inj hv
  subst e
  refine ⟨rfl, ?_⟩
  match j, hu with
  | 0, hu => cases hu; trivial
  | 1, hu => cases hu; trivial
  | 2, hu => cases hu; exact pv_leaf pvi
theorem dues_len : ∀ gs : List Seg, (dues gs).length = gs.length := by
  intro gs
  induction gs with
  | nil => rfl
  | cons s r ih => rw [dues, List.length_append, ih]; rfl
theorem law_has {fa : Addr} {fd : FuncData} (F : Fun K "law" "law" s_law fa fd) (T : Txt K mg) (H_law_rows : Has P w K mg base CX0 "_law_rows" 1 ["script", "count"] (spRows K)) (H_law_piece : Has P w K mg base CX0 "_law_piece" 2 ["row"] spLPiece)
    (H_law_gap : Has P w K mg base CX0 "_law_gap" 1 ["row", "before", "after"] spLGap) (H_tokens_of : Has P w K mg base CX0 "tokens_of" 4 ["text"] spToks)
    (H_law_wrong : Has P w K mg base CX0 "_law_wrong" 1 ["row"] spLWrong) (H_law_like : Has P w K mg base CX0 "_law_like" 3 ["told", "due"] (spLike 3)) : FnOk P w K mg base CX0 5 fa fd ["script"] (spLaw K) := by
  have Sc := sc_law
  refine F.ok Sc (fun vs H Q E h => ?_) (fun cdv A outer s H vs Q E hr h => ?_)
  · obtain ⟨a, ns, rfl, _⟩ := h; rfl
  · obtain ⟨a, ns, rfl, hS, hn, hb, k⟩ := h
    refine ⟨_, (pss_cons (ps_set (i := 1) Sc.nd rfl (.inl rfl) (fe_call H_law_rows (hr.mono (by walk_at "rm")) (by rfl) pass0 (pa_cons (fe_var 0) (pa_cons pe_int pa_nil))))
      (pss_cons (ps_set (i := 2) Sc.nd rfl (.inl rfl) pe_str)
      (pss_cons (ps_set (i := 3) Sc.nd rfl (.inl rfl) (fe_lst pa_nil))
      (pss_cons (ps_set (i := 4) Sc.nd rfl (.inl rfl) pe_str)
      (pss_cons (ps_for PassesOwn.never rfl (pi_range1 (by rfl) T.no_range (pa_cons (pe_op op_fMod (pe_callTy call_fInt (by rfl) T.no_int (by decide +kernel) (pa_cons (pe_ix ix_fx (fe_var 1) pe_int (fun _ _ => rfl)) pa_nil)) pe_int) pa_nil)) (pg_name (i := 5) Sc.nd rfl (.inl rfl)) (pss_cons (ps_set (i := 6) Sc.nd rfl (.inl rfl) (fe_call H_law_piece (hr.mono (by walk_at "rm")) (by rfl) pass0 (pa_cons (pe_ix ix_fx (fe_var 1) (pe_op op_fAdd (fe_var 5) pe_int) (fun _ _ => rfl)) pa_nil)))
      (pss_cons (ps_set (i := 2) Sc.nd rfl (.inl rfl) (pe_op op_fAdd (fe_var 2) (fe_call H_law_gap (hr.mono (by walk_at "rm")) (by rfl) pass0 (pa_cons (pe_ix ix_fx (fe_var 1) (pe_op op_fAdd (fe_var 5) pe_int) (fun _ _ => rfl)) (pa_cons (fe_var 4) (pa_cons (pe_ix ix_fx (fe_var 6) pe_int (fun _ _ => rfl)) pa_nil))))))
      (pss_cons (ps_expr (fe_bm PySem.F.plainAttrs_list PySem.F.slot_list_append PySem.F.type_list_append isLst_ty mt_fAppend (fe_var 3) (pa_cons (fe_tup (pa_cons (pe_ix ix_fx (fe_var 6) pe_int (fun _ _ => rfl)) (pa_cons (pe_callB call_fLen (by rfl) T.no_len (by decide +kernel) (pa_cons (fe_var 2) pa_nil)) (pa_cons (pe_ix ix_fx (fe_var 6) pe_int (fun _ _ => rfl)) pa_nil)))) pa_nil)))
      (pss_cons (ps_set (i := 2) Sc.nd rfl (.inl rfl) (pe_op op_fAdd (fe_var 2) (pe_ix ix_fx (fe_var 6) pe_int (fun _ _ => rfl))))
      (pss_one (ps_set (i := 4) Sc.nd rfl (.inl rfl) (pe_ix ix_fx (fe_var 6) pe_int (fun _ _ => rfl)))))))))
      (pss_cons (ps_set (i := 7) Sc.nd rfl (.inl rfl) (fe_call H_law_wrong (hr.mono (by walk_at "rm")) (by rfl) pass0 (pa_cons (pe_ix ix_fx (fe_var 1) pe_int (fun _ _ => rfl)) pa_nil)))
      (pss_cons (ps_set (i := 2) Sc.nd rfl (.inl rfl) (pe_op op_fAdd (fe_var 2) pe_str))
      (pss_cons (ps_expr (fe_bm PySem.F.plainAttrs_list PySem.F.slot_list_append PySem.F.type_list_append isLst_ty mt_fAppend (fe_var 3) (pa_cons (fe_tup (pa_cons pe_str (pa_cons (pe_op op_fAdd (pe_callB call_fLen (by rfl) T.no_len (by decide +kernel) (pa_cons (fe_var 2) pa_nil)) (pe_ix ix_fx (fe_var 7) pe_int (fun _ _ => rfl))) (pa_cons (pe_ix ix_fx (fe_var 7) pe_int (fun _ _ => rfl)) pa_nil)))) pa_nil)))
      (pss_cons (ps_set (i := 2) Sc.nd rfl (.inl rfl) (pe_op op_fAdd (fe_var 2) (pe_ix ix_fx (fe_var 7) pe_int (fun _ _ => rfl))))
      (pss_cons (ps_if (pt_cmpR op_fNotIn (pe_op op_fMod (pe_ix ix_fx (fe_var 1) pe_int (fun _ _ => rfl)) pe_int) (fe_tup (pa_cons pe_int (pa_cons pe_int pa_nil))) (by with_unfolding_all rfl)) (pss_one (ps_for PassesOwn.never rfl (pi_range1 (by rfl) T.no_range (pa_cons (pe_op op_fMod (pe_callTy call_fInt (by rfl) T.no_int (by decide +kernel) (pa_cons (pe_ix ix_fx (fe_var 1) pe_int (fun _ _ => rfl)) pa_nil)) pe_int) pa_nil)) (pg_name (i := 5) Sc.nd rfl (.inl rfl)) (pss_one (ps_set (i := 2) Sc.nd rfl (.inl rfl) (pe_op op_fAdd (pe_op op_fAdd (fe_var 2) (pe_ix ix_fx (fe_call H_law_piece (hr.mono (by walk_at "rm")) (by rfl) pass0 (pa_cons (pe_ix ix_fx (fe_var 1) (pe_op op_fAdd pe_int (fe_var 5)) (fun _ _ => rfl)) pa_nil)) pe_int (fun _ _ => rfl))) pe_str))))) pss_nil)
      (pss_one (ps_ret (fe_call H_law_like (hr.mono (by walk_at "rm")) (by rfl) pass0 (pa_cons (fe_call H_tokens_of (hr.mono (by walk_at "rm")) (by rfl) pass0 (pa_cons (fe_var 2) pa_nil)) (pa_cons (fe_var 3) pa_nil))))))))))))))), ?_⟩
    walk_at "fx0"
    walk_at "fx"
    refine ⟨ns, hS, hn, by decide, by decide, fun p H1 rs sm hp eo hl => ?_⟩
    walk_at "fx"
    have hl6 : rs.length = 30 := hl
    intro dp H2 nd sm2 ed
    have eo2 := sm2 _ _ eo
    refine for_ ?_
    walk_at "fx"
    obtain ⟨r0, e0⟩ := at_ints (ns := rs) (i := 0) (by omega) (by omega)
    refine ⟨_, rl_l eo2, _, e0, ?_⟩
    walk_at "fx"
    have i0 := emod_lo r0 (m := 9) (by decide)
    have i1 := emod_hi r0 (m := 9) (by decide)
    refine ⟨by omega, by omega, ?_⟩
    refine loop_range (LawI a p dp rs H1) ⟨⟨[], _, none, none, rfl, trivial, (fun t h => by cases h), Nat.zero_le _, ⟨⟨[], ed, rfl, (fun i a t h => by simp at h)⟩⟩, rfl, sm2⟩⟩ ?_ ?_
    · rintro i σ H' hi ⟨gs, b, v5, v6, rfl, lk, hb, hlen, tl, hi2, sm3⟩
      have hi3 : i < 8 := by omega
      walk_at "fx"
      have eo3 := sm3 _ _ eo
      obtain ⟨r1, e1⟩ := at_ints (ns := rs) (i := (i : Int) + 1) (by omega) (by omega)
      obtain ⟨r2, e2⟩ := at_ints (ns := rs) (i := (i : Int) + 10) (by omega) (by omega)
      refine ⟨_, rl_l eo3, _, e1, ?_⟩
      unfold spLPiece
      intro pp H3 pz kd v np sm4 ep pl hP
      walk_at "fx"
      refine ⟨_, rl_l (sm4 _ _ eo3), _, e2, _, rl_l ep, _, atI_nat (j := 0) rfl, ?_⟩
      unfold spLGap
      intro H4 g sm5 hg
      have gl := hg.len
      have tl4 := same_tl (sm4.trans sm5) tl
      obtain ⟨as, t1, t2, t3⟩ := tl4.ex
      have tH := tl.ex
      obtain ⟨as', u1, _, _⟩ := tH
      have hne : pp ≠ dp := (ne_of_none u1 np).symm
      walk_at "fx"
      simp only [S_app, S_len, t1]
      refine ⟨len_line (by omega), trivial, _, rl_l (sm5 _ _ ep), _, atI_nat (j := 1) rfl, len_line (by rw [List.length_append]; omega), _, rl_l (sm5 _ _ ep), _, atI_nat (j := 2) rfl, ?_⟩
      intro q H5 nq sm6 eq
      simp only [sm6 _ _ t1]
      have ep6 : upd H5 dp (.lst (as.map V.ref ++ [.ref q])) pp = some (.lst [.str (S pz), .str kd, v]) := by rw [upd_ne hne]; exact sm6 _ _ (sm5 _ _ ep)
      have al : as.length ≤ 20 := by
        rw [t2, dues_len]; omega
      refine ⟨by rw [List.length_map]; exact len_line' (by omega), _, rl_l ep6, _, atI_nat (j := 0) rfl, ?_⟩
      walk_at "fx"
      simp only [S_app, S_len]
      refine ⟨len_line (by rw [List.length_append]; omega), _, rl_l ep6, _, atI_nat (j := 0) rfl, ?_⟩
      refine ⟨⟨g, pz, kd, v⟩ :: gs, S pz, _, _, rfl, ⟨⟨hg.gap, hP⟩, ?_, lk⟩, ?_, ?_, ?_, ?_, ?_⟩
      · intro t ht
        have e := hb t ht
        subst e
        exact hg.follow hP
      · intro t ht
        cases ht
        rfl
      · show (cat gs ++ g ++ pz).length ≤ _
        rw [List.length_append, List.length_append]
        omega
      · exact TokList.app (t := (kd, (cat gs ++ g).length, v)) (sm6 _ _ t1) t2 (fun j a t h1 h2 => sm6 _ _ (t3 j a t h1 h2)) eq
      · rw [List.length_cons, hi2]
      · exact same_mut (((sm3.trans sm4).trans sm5).trans sm6) nd
    · rintro σ H' ⟨gs, b, v5, v6, rfl, lk, hb, hlen, tl, hi2, sm3⟩
      walk_at "fx"
      have eo3 := sm3 _ _ eo
      obtain ⟨r20, e20⟩ := at_ints (ns := rs) (i := 20) (by omega) (by omega)
      obtain ⟨r21, e21⟩ := at_ints (ns := rs) (i := 21) (by omega) (by omega)
      refine ⟨_, rl_l eo3, _, e20, ?_⟩
      unfold spLWrong
      intro wp H3 wt off msg nw sm4 ew wl hW
      have tl4 := same_tl sm4 tl
      obtain ⟨as, t1, t2, t3⟩ := tl4.ex
      have tH := tl.ex
      obtain ⟨as', u1, _, _⟩ := tH
      have hne : wp ≠ dp := (ne_of_none u1 nw).symm
      have e32 : Str.ofString " " = S [32] := by decide +kernel
      walk_at "fx"
      simp only [S_app, S_len, t1, e32, List.length_append, List.length_cons, List.length_nil]
      refine ⟨len_line (by omega), trivial, len_line (by omega), _, rl_l ew, _, atI_nat (j := 1) rfl, ?_⟩
      walk_at "fx"
      refine ⟨_, rl_l ew, _, atI_nat (j := 2) rfl, ?_⟩
      intro q H5 nq sm6 eq
      simp only [sm6 _ _ t1]
      have al : as.length ≤ 20 := by
        rw [t2, dues_len]; omega
      have ep6 : upd H5 dp (.lst (as.map V.ref ++ [.ref q])) wp = some (.lst [.str (S wt), .int off, .str msg]) := by rw [upd_ne hne]; exact sm6 _ _ ew
      have eq' : H5 q = some (.tup [.str (Str.ofString "fault"), .int (((cat gs ++ [32]).length + off : Nat) : Int), .str msg]) := by
        rw [List.length_append, Int.natCast_add]
        exact eq
      have eqT : IsTok H5 q (Str.ofString "fault", (cat gs ++ [32]).length + off, .str msg) := eq'
      have tlE := TokList.app (sm6 _ _ t1) t2 (fun j a t h1 h2 => sm6 _ _ (t3 j a t h1 h2)) eqT
      have smE : Same H1 (upd H5 dp (.lst (as.map V.ref ++ [.ref q]))) := same_mut ((sm3.trans sm4).trans sm6) nd
      refine ⟨by rw [List.length_map]; exact len_line' (by omega), _, rl_l ep6, _, atI_nat (j := 0) rfl, ?_⟩
      generalize hH6 : upd H5 dp (.lst (as.map V.ref ++ [.ref q])) = H6 at tlE smE ep6 ⊢
      have eo6 := smE _ _ eo
      walk_at "fx"
      simp only [S_app, S_len]
      refine ⟨len_line (by simp; omega), ?_⟩
      have fin : ∀ (rest : List Nat) (v5 : Option V) (H7 : Hp), Same H6 H7 → rest.length ≤ 340 * 4 → (decide (r20 % 8 = 5 ∨ r20 % 8 = 7) = true → rest = []) →
          tRet (tCall (spLike 3) [] E0 (tCons (tCall spToks [] E0 (tCons (fVar 2) tNil)) (tCons (fVar 3) tNil))) { nx := fun x H' => Q V.non H', rt := Q }
            [some (.ref a), some (.ref p), some (.str (S (cat gs ++ [32] ++ wt ++ rest))), some (.ref dp), some (.str b), v5, v6, some (.ref wp)] H7 := by
        intro rest v5 H7 sm7 hrl hre
        walk_at "fx"
        unfold spToks
        refine ⟨by rw [S_len, List.length_append, List.length_append, List.length_append]; simp; omega, ?_⟩
        intro tp H8 ts ntp sm8 tl8 hts
        rw [L_S] at hts
        have hw := Tks.wrong (rest := rest) lk hW hre
        have hdet := Tks.det hts hw
        subst hdet
        dsimp only [spLike]
        refine ⟨tl_alk tl8 (same_tl (sm7.trans sm8) tlE) (pv_all lk) ?_, fun H9 _ => k H9⟩
        rw [List.length_append, dues_len]
        simp; omega
      refine cut_ fun N hN => ifs_ ?_
      walk_at "fx"
      refine ⟨_, rl_l eo6, _, e20, ?_⟩
      walk_at "fx"
      intro tq H7 ntq sm7 etq
      refine ⟨_, rl_t etq, rfl, ?_⟩
      have ein : inV (.int (r20 % 8)) [V.int 5, V.int 7] = decide (r20 % 8 = 5 ∨ r20 % 8 = 7) := by
        have : inV (.int (r20 % 8)) [V.int 5, V.int 7] = (decide ((5 : Int) = r20 % 8) || (decide ((7 : Int) = r20 % 8) || false)) := rfl
        rw [this, Bool.eq_iff_iff]
        simp only [Bool.or_eq_true, decide_eq_true_eq, Bool.or_false]
        omega
      rw [ein]
      by_cases hend : r20 % 8 = 5 ∨ r20 % 8 = 7
      · rw [decide_eq_true hend, if_neg (by decide)]
        refine hN _ _ ?_
        have := fin [] v5 H7 sm7 (by simp) fun _ => rfl
        rw [List.append_nil] at this
        exact this
      · rw [decide_eq_false hend, if_pos rfl]
        have hendF : ∀ rest : List Nat, decide (r20 % 8 = 5 ∨ r20 % 8 = 7) = true → rest = [] := fun rest h => absurd (of_decide_eq_true h) hend
        refine for_ ?_
        have j0 := emod_lo r21 (m := 4) (by decide)
        have j1 := emod_hi r21 (m := 4) (by decide)
        walk_at "fx"
        refine ⟨_, rl_l (sm7 _ _ eo6), _, e21, ?_⟩
        walk_at "fx"
        refine ⟨by omega, by omega, ?_⟩
        refine loop_range (MoreI a p dp (cat gs ++ [32] ++ wt) b v6 wp H7) ⟨⟨[], v5, by rw [List.append_nil], Nat.zero_le _, Same.refl _⟩⟩ ?_ ?_
        · rintro i σ H8 hi ⟨m, v5', rfl, hm, sm8⟩
          have hi3 : i < 3 := by omega
          have eo8 := sm8 _ _ (sm7 _ _ eo6)
          obtain ⟨r3, e3⟩ := at_ints (ns := rs) (i := 22 + (i : Int)) (by omega) (by omega)
          walk_at "fx"
          refine ⟨_, rl_l eo8, _, e3, ?_⟩
          unfold spLPiece
          intro pp H9 pz kd v np sm9 ep pl hP
          have e10 : Str.ofString "\n" = S [10] := by decide +kernel
          walk_at "fx"
          refine ⟨_, rl_l ep, _, atI_nat (j := 0) rfl, ?_⟩
          simp only [S_app, S_len, e10]
          refine ⟨len_line (by simp; omega), len_line (by simp; omega), m ++ pz ++ [10], some (.int (i : Int)), ?_, ?_, sm8.trans sm9⟩
          · simp only [List.append_assoc]
          · simp; omega
        · rintro σ H8 ⟨m, v5', rfl, hm, sm8⟩
          refine hN _ _ ?_
          exact fin m v5' H8 (sm7.trans sm8) (by omega) (hendF m)
end

section
variable {P : Program} {w : World} {K : PySem.W.Frag} {mg : Str → Option Value} {base : Heap}
theorem law_fn {fa : Addr} {fd : FuncData} (F : Fun K "law" "law" s_law fa fd) (T : Txt K mg)
    (a_is_character : At K mg "is_character" "is_character" s_is_character ["char"])
    (a_run_stop : At K mg "run_stop" "run_stop" s_run_stop ["text", "start", "chars"])
    (a_comment_stop : At K mg "comment_stop" "comment_stop" s_comment_stop ["text", "start"])
    (a_word_or_name : At K mg "word_or_name" "word_or_name" s_word_or_name ["text", "start", "stop"])
    (a_number_token : At K mg "number_token" "number_token" s_number_token ["text", "start", "stop"])
    (a_escaped : At K mg "escaped" "escaped" s_escaped ["char"])
    (a_quoted : At K mg "quoted" "quoted" s_quoted ["text", "start"])
    (a_token_at : At K mg "token_at" "token_at" s_token_at ["text", "at"])
    (a_tokens_of : At K mg "tokens_of" "tokens_of" s_tokens_of ["text"])
    (a_law_rows : At K mg "_law_rows" "_law_rows" s_law_rows ["script", "count"])
    (a_law_word : At K mg "_law_word" "_law_word" s_law_word ["row"])
    (a_law_name : At K mg "_law_name" "_law_name" s_law_name ["row"])
    (a_law_text : At K mg "_law_text" "_law_text" s_law_text ["row"])
    (a_law_spelled : At K mg "_law_spelled" "_law_spelled" s_law_spelled ["text"])
    (a_law_piece : At K mg "_law_piece" "_law_piece" s_law_piece ["row"])
    (a_law_gap : At K mg "_law_gap" "_law_gap" s_law_gap ["row", "before", "after"])
    (a_law_wrong : At K mg "_law_wrong" "_law_wrong" s_law_wrong ["row"])
    (a_law_like : At K mg "_law_like" "_law_like" s_law_like ["told", "due"]) :
    FnOk P w K mg base CX0 5 fa fd ["script"] (spLaw K) := by
  have h_is_character := ok_is_character (P := P) (w := w) (base := base) a_is_character T
  have h_run_stop := ok_run_stop (P := P) (w := w) (base := base) a_run_stop T
  have h_comment_stop := ok_comment_stop (P := P) (w := w) (base := base) a_comment_stop T
  have h_word_or_name := ok_word_or_name (P := P) (w := w) (base := base) a_word_or_name T
  have h_number_token := ok_number_token (P := P) (w := w) (base := base) a_number_token T
  have h_escaped := ok_escaped (P := P) (w := w) (base := base) a_escaped T
  have h_quoted := ok_quoted (P := P) (w := w) (base := base) a_quoted T h_is_character h_escaped
  have h_token_at := ok_token_at (P := P) (w := w) (base := base) a_token_at T h_run_stop h_word_or_name h_number_token h_quoted
  have h_tokens_of := ok_tokens_of (P := P) (w := w) (base := base) a_tokens_of T h_comment_stop h_token_at
  have h_law_rows := ok_rows (P := P) (w := w) (base := base) a_law_rows T
  have h_law_word := ok_lword (P := P) (w := w) (base := base) a_law_word T
  have h_law_name := ok_lname (P := P) (w := w) (base := base) a_law_name T
  have h_law_text := ok_ltext (P := P) (w := w) (base := base) a_law_text T
  have h_law_spelled := ok_lspell (P := P) (w := w) (base := base) a_law_spelled T
  have h_law_piece := ok_lpiece (P := P) (w := w) (base := base) a_law_piece T h_law_word h_law_name h_law_text h_law_spelled
  have h_law_gap := ok_lgap (P := P) (w := w) (base := base) a_law_gap T
  have h_law_wrong := ok_lwrong (P := P) (w := w) (base := base) a_law_wrong T
  have h_law_like := ok_llike (P := P) (w := w) (base := base) a_law_like T 3
  exact law_has F T h_law_rows h_law_piece h_law_gap h_tokens_of h_law_wrong h_law_like
end
theorem all_mk {P : Program} {w : World} {K : PySem.W.Frag} {h : Heap} {mg : Str → Option Value} {fa : Addr} (X : K.In h) (G : h.Ns mainGlobals mg) (hfa : mg "law" = some (.ref fa))
    (f0 : FnFact K "is_character" "is_character" s_is_character) (f1 : FnFact K "run_stop" "run_stop" s_run_stop) (f2 : FnFact K "comment_stop" "comment_stop" s_comment_stop) (f3 : FnFact K "word_or_name" "word_or_name" s_word_or_name) (f4 : FnFact K "number_token" "number_token" s_number_token) (f5 : FnFact K "escaped" "escaped" s_escaped) (f6 : FnFact K "quoted" "quoted" s_quoted) (f7 : FnFact K "token_at" "token_at" s_token_at) (f8 : FnFact K "tokens_of" "tokens_of" s_tokens_of) (f9 : FnFact K "_law_rows" "_law_rows" s_law_rows) (f10 : FnFact K "_law_word" "_law_word" s_law_word) (f11 : FnFact K "_law_name" "_law_name" s_law_name) (f12 : FnFact K "_law_text" "_law_text" s_law_text) (f13 : FnFact K "_law_spelled" "_law_spelled" s_law_spelled) (f14 : FnFact K "_law_piece" "_law_piece" s_law_piece) (f15 : FnFact K "_law_gap" "_law_gap" s_law_gap) (f16 : FnFact K "_law_wrong" "_law_wrong" s_law_wrong) (f17 : FnFact K "_law_like" "_law_like" s_law_like) (f18 : FnFact K "law" "law" s_law)
    (z_bool : PySem.W.nsIn K mainGlobals "bool" = some none) (z_int : PySem.W.nsIn K mainGlobals "int" = some none) (z_isinstance : PySem.W.nsIn K mainGlobals "isinstance" = some none) (z_len : PySem.W.nsIn K mainGlobals "len" = some none) (z_list : PySem.W.nsIn K mainGlobals "list" = some none) (z_ord : PySem.W.nsIn K mainGlobals "ord" = some none) (z_range : PySem.W.nsIn K mainGlobals "range" = some none) (z_str : PySem.W.nsIn K mainGlobals "str" = some none) (z_tuple : PySem.W.nsIn K mainGlobals "tuple" = some none)
    (q_DIGITS : ∃ t, PySem.W.nsIn K mainGlobals "DIGITS" = some (some (.str "0123456789" t))) (q_DOUBLE_SIGNS : TupFact K "DOUBLE_SIGNS" [.str "==", .str "!=", .str "<=", .str ">="]) (q_LETTERS : ∃ t, PySem.W.nsIn K mainGlobals "LETTERS" = some (some (.str "ABCDEFGHIJKLMNOPQRSTUVWXYZabcdefghijklmnopqrstuvwxyz_" t))) (q_MOST_DIGITS : ∃ t, PySem.W.nsIn K mainGlobals "MOST_DIGITS" = some (some (.int 300 t))) (q_PERCENT : ∃ t, PySem.W.nsIn K mainGlobals "PERCENT" = some (some (.int 37 t))) (q_SINGLE_SIGNS : ∃ t, PySem.W.nsIn K mainGlobals "SINGLE_SIGNS" = some (some (.str "()[]{},;:.=<>+-*/" t))) (q_WORDS : TupFact K "WORDS" [.str "let", .str "fun", .str "class", .str "extends", .str "if", .str "else", .str "while", .str "for", .str "in", .str "break", .str "continue", .str "return", .str "throw", .str "try", .str "catch", .str "and", .str "or", .str "not", .str "is", .str "mod", .str "true", .str "false", .str "null", .str "this", .str "super"]) :
    ∃ fd : FuncData, (∀ (s : Shared) (v : Value), BindsTo s fd ⟨[v], []⟩ [("script", v)]) ∧ ∀ base : Heap, K.In base → base.Ns mainGlobals mg → FnOk P w K mg base CX0 5 fa fd ["script"] (spLaw K) := by
  have T : Txt K mg := ⟨PySem.W.mg_none_of X G z_bool, PySem.W.mg_none_of X G z_int, PySem.W.mg_none_of X G z_isinstance, PySem.W.mg_none_of X G z_len, PySem.W.mg_none_of X G z_list, PySem.W.mg_none_of X G z_ord, PySem.W.mg_none_of X G z_range, PySem.W.mg_none_of X G z_str, PySem.W.mg_none_of X G z_tuple, (let ⟨t, h⟩ := q_DIGITS; ⟨t, PySem.W.mg_of X G h⟩), (TupFact.get X G q_DOUBLE_SIGNS), (let ⟨t, h⟩ := q_LETTERS; ⟨t, PySem.W.mg_of X G h⟩), (let ⟨t, h⟩ := q_MOST_DIGITS; ⟨t, PySem.W.mg_of X G h⟩), (let ⟨t, h⟩ := q_PERCENT; ⟨t, PySem.W.mg_of X G h⟩), (let ⟨t, h⟩ := q_SINGLE_SIGNS; ⟨t, PySem.W.mg_of X G h⟩), (TupFact.get X G q_WORDS)⟩
  have a0 : At K mg "is_character" "is_character" s_is_character ["char"] := At.of X G f0 fun _ _ _ _ _ _ us hl => match us, hl with | [_], _ => rfl
  have a1 : At K mg "run_stop" "run_stop" s_run_stop ["text", "start", "chars"] := At.of X G f1 fun _ _ _ _ _ _ us hl => match us, hl with | [_, _, _], _ => rfl
  have a2 : At K mg "comment_stop" "comment_stop" s_comment_stop ["text", "start"] := At.of X G f2 fun _ _ _ _ _ _ us hl => match us, hl with | [_, _], _ => rfl
  have a3 : At K mg "word_or_name" "word_or_name" s_word_or_name ["text", "start", "stop"] := At.of X G f3 fun _ _ _ _ _ _ us hl => match us, hl with | [_, _, _], _ => rfl
  have a4 : At K mg "number_token" "number_token" s_number_token ["text", "start", "stop"] := At.of X G f4 fun _ _ _ _ _ _ us hl => match us, hl with | [_, _, _], _ => rfl
  have a5 : At K mg "escaped" "escaped" s_escaped ["char"] := At.of X G f5 fun _ _ _ _ _ _ us hl => match us, hl with | [_], _ => rfl
  have a6 : At K mg "quoted" "quoted" s_quoted ["text", "start"] := At.of X G f6 fun _ _ _ _ _ _ us hl => match us, hl with | [_, _], _ => rfl
  have a7 : At K mg "token_at" "token_at" s_token_at ["text", "at"] := At.of X G f7 fun _ _ _ _ _ _ us hl => match us, hl with | [_, _], _ => rfl
  have a8 : At K mg "tokens_of" "tokens_of" s_tokens_of ["text"] := At.of X G f8 fun _ _ _ _ _ _ us hl => match us, hl with | [_], _ => rfl
  have a9 : At K mg "_law_rows" "_law_rows" s_law_rows ["script", "count"] := At.of X G f9 fun _ _ _ _ _ _ us hl => match us, hl with | [_, _], _ => rfl
  have a10 : At K mg "_law_word" "_law_word" s_law_word ["row"] := At.of X G f10 fun _ _ _ _ _ _ us hl => match us, hl with | [_], _ => rfl
  have a11 : At K mg "_law_name" "_law_name" s_law_name ["row"] := At.of X G f11 fun _ _ _ _ _ _ us hl => match us, hl with | [_], _ => rfl
  have a12 : At K mg "_law_text" "_law_text" s_law_text ["row"] := At.of X G f12 fun _ _ _ _ _ _ us hl => match us, hl with | [_], _ => rfl
  have a13 : At K mg "_law_spelled" "_law_spelled" s_law_spelled ["text"] := At.of X G f13 fun _ _ _ _ _ _ us hl => match us, hl with | [_], _ => rfl
  have a14 : At K mg "_law_piece" "_law_piece" s_law_piece ["row"] := At.of X G f14 fun _ _ _ _ _ _ us hl => match us, hl with | [_], _ => rfl
  have a15 : At K mg "_law_gap" "_law_gap" s_law_gap ["row", "before", "after"] := At.of X G f15 fun _ _ _ _ _ _ us hl => match us, hl with | [_, _, _], _ => rfl
  have a16 : At K mg "_law_wrong" "_law_wrong" s_law_wrong ["row"] := At.of X G f16 fun _ _ _ _ _ _ us hl => match us, hl with | [_], _ => rfl
  have a17 : At K mg "_law_like" "_law_like" s_law_like ["told", "due"] := At.of X G f17 fun _ _ _ _ _ _ us hl => match us, hl with | [_, _], _ => rfl
  obtain ⟨f, oc, od, an, sl, kV, dc, pm, cd, ct, a, l, c, k⟩ := f18.ex
  have e := hfa.symm.trans (PySem.W.mg_of X G a)
  cases e
  have F1 := fun_mk (st := s_law) l c k
  have al : At K mg "law" "law" s_law ["script"] := ⟨_, _, F1, F1.binds fun _ _ _ _ _ _ us hl => match us, hl with | [_], _ => rfl, PySem.W.mg_of X G a⟩
  refine ⟨PySem.W.fnOf "law" "law" (defArgs s_law) (defBody s_law) (defScope s_law) .none kV dc pm an cd ct, fun s v => .of_eq rfl, fun base _ _ => ?_⟩
  exact law_fn F1 T a0 a1 a2 a3 a4 a5 a6 a7 a8 a9 a10 a11 a12 a13 a14 a15 a16 a17
end My
open PySem PySem.W PyProof.Rows
set_option maxRecDepth 100000 in
set_option maxHeartbeats 0 in
theorem PySem.Challenge.cw_livequill_k02_faults_of_tokens_holds : PySem.Challenge.rw_livequill_k02_faults_of_tokens.Holds := by
  w_on; o_law; k_head; (case hw => w_witness2)
  k_fill
  refine L2.walk_ofB (l := PySem.Challenge.rw_livequill_k02_faults_of_tokens) (n := 63) (k := 5) (x := "script") (CX := fun _ => L2.CX0) (sp := fun w => My.spLaw _) rfl (by decide) rfl ⟨rfl, by decide, by decide⟩ (fun w h Y => PySem.W.kIn_of Y) ?F (fun _ _ a ns hl hb _ hS => ⟨a, ns, rfl, hS, hl, hb, fun _ => rfl⟩) (fun _ _ _ _ _ h => h)
  case F =>
    intro w mg fa h KX G hmg
    refine' My.all_mk KX G hmg (Fx.FnFact.of ?a0 ?l0 ?c0 ?k0) (Fx.FnFact.of ?a1 ?l1 ?c1 ?k1) (Fx.FnFact.of ?a2 ?l2 ?c2 ?k2) (Fx.FnFact.of ?a3 ?l3 ?c3 ?k3) (Fx.FnFact.of ?a4 ?l4 ?c4 ?k4) (Fx.FnFact.of ?a5 ?l5 ?c5 ?k5) (Fx.FnFact.of ?a6 ?l6 ?c6 ?k6) (Fx.FnFact.of ?a7 ?l7 ?c7 ?k7) (Fx.FnFact.of ?a8 ?l8 ?c8 ?k8) (Fx.FnFact.of ?a9 ?l9 ?c9 ?k9) (Fx.FnFact.of ?a10 ?l10 ?c10 ?k10) (Fx.FnFact.of ?a11 ?l11 ?c11 ?k11) (Fx.FnFact.of ?a12 ?l12 ?c12 ?k12) (Fx.FnFact.of ?a13 ?l13 ?c13 ?k13) (Fx.FnFact.of ?a14 ?l14 ?c14 ?k14) (Fx.FnFact.of ?a15 ?l15 ?c15 ?k15) (Fx.FnFact.of ?a16 ?l16 ?c16 ?k16) (Fx.FnFact.of ?a17 ?l17 ?c17 ?k17) (Fx.FnFact.of ?a18 ?l18 ?c18 ?k18) ?z_bool ?z_int ?z_isinstance ?z_len ?z_list ?z_ord ?z_range ?z_str ?z_tuple (Fx.gstr_of ?q_DIGITS) (Fx.TupFact.of ?qa_DOUBLE_SIGNS ?qb_DOUBLE_SIGNS ?qc_DOUBLE_SIGNS ?qd_DOUBLE_SIGNS) (Fx.gstr_of ?q_LETTERS) (Fx.gint_of ?q_MOST_DIGITS) (Fx.gint_of ?q_PERCENT) (Fx.gstr_of ?q_SINGLE_SIGNS) (Fx.TupFact.of ?qa_WORDS ?qb_WORDS ?qc_WORDS ?qd_WORDS)
    (case a0 => k_is); (case l0 => k_is); (case c0 => k_is); (case k0 => k_is)
    (case a1 => k_is); (case l1 => k_is); (case c1 => k_is); (case k1 => k_is)
    (case a2 => k_is); (case l2 => k_is); (case c2 => k_is); (case k2 => k_is)
    (case a3 => k_is); (case l3 => k_is); (case c3 => k_is); (case k3 => k_is)
    (case a4 => k_is); (case l4 => k_is); (case c4 => k_is); (case k4 => k_is)
    (case a5 => k_is); (case l5 => k_is); (case c5 => k_is); (case k5 => k_is)
    (case a6 => k_is); (case l6 => k_is); (case c6 => k_is); (case k6 => k_is)
    (case a7 => k_is); (case l7 => k_is); (case c7 => k_is); (case k7 => k_is)
    (case a8 => k_is); (case l8 => k_is); (case c8 => k_is); (case k8 => k_is)
    (case a9 => k_is); (case l9 => k_is); (case c9 => k_is); (case k9 => k_is)
    (case a10 => k_is); (case l10 => k_is); (case c10 => k_is); (case k10 => k_is)
    (case a11 => k_is); (case l11 => k_is); (case c11 => k_is); (case k11 => k_is)
    (case a12 => k_is); (case l12 => k_is); (case c12 => k_is); (case k12 => k_is)
    (case a13 => k_is); (case l13 => k_is); (case c13 => k_is); (case k13 => k_is)
    (case a14 => k_is); (case l14 => k_is); (case c14 => k_is); (case k14 => k_is)
    (case a15 => k_is); (case l15 => k_is); (case c15 => k_is); (case k15 => k_is)
    (case a16 => k_is); (case l16 => k_is); (case c16 => k_is); (case k16 => k_is)
    (case a17 => k_is); (case l17 => k_is); (case c17 => k_is); (case k17 => k_is)
    (case a18 => k_is); (case l18 => k_is); (case c18 => k_is); (case k18 => k_is)
    (case z_bool => k_is); (case z_int => k_is); (case z_isinstance => k_is); (case z_len => k_is); (case z_list => k_is); (case z_ord => k_is); (case z_range => k_is); (case z_str => k_is); (case z_tuple => k_is)
    (case q_DIGITS => k_is)
    (case qa_DOUBLE_SIGNS => k_is); (case qb_DOUBLE_SIGNS => k_is); (case qc_DOUBLE_SIGNS => decide +kernel); (case qd_DOUBLE_SIGNS => decide +kernel)
    (case q_LETTERS => k_is)
    (case q_MOST_DIGITS => k_is)
    (case q_PERCENT => k_is)
    (case q_SINGLE_SIGNS => k_is)
    (case qa_WORDS => k_is); (case qb_WORDS => k_is); (case qc_WORDS => decide +kernel); (case qd_WORDS => decide +kernel)
