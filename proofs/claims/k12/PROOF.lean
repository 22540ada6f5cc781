import PyProof.Rows.All
import Wide.All
import OpenK.AllK
import Wide.FinOn
import HandS.ForMost
import HandS.StrMore
import HandS.Wide
import HandS.IsInst
import HandS.Flow
import HandS.Codes
import HandS.Deep
import HandS.EndBits
import PyProof.StrLawsTight
import PyProof.StrLawsLast
import PySem.Challenge.RW_livequill_k12_places_and_changes
set_option Elab.async false
set_option linter.all false
set_option maxRecDepth 100000
/-! Fx: readings that compute: every operation is one function of its values, whatever their kinds. -/
namespace Fx
open PySem PySem.Spec PyProof.Rows L2

/-! ### weakening -/
section
variable {X : Cx}
theorem pe_wk {e : Expr} {t t' : TE} (h : PE X e t) (w : ∀ σ H Q, t' σ H Q → t σ H Q) : PE X e t' := ⟨fun pins s σ H Q I q => h.run pins s σ H Q I (w σ H Q q)⟩
theorem pt_wk {e : Expr} {t t' : TT} (h : PT X e t) (w : ∀ σ H Q, t' σ H Q → t σ H Q) : PT X e t' := ⟨fun pins s σ H Q I q => h.run pins s σ H Q I (w σ H Q q)⟩
theorem ps_wk {e : Stmt} {t t' : TS} (h : PS X e t) (w : ∀ D σ H, t' D σ H → t D σ H) : PS X e t' := ⟨fun pins s σ H D I q => h.run pins s σ H D I (w D σ H q)⟩
theorem op_wk {f : Value → Value → Sem Value} {r r' : R2} (h : OpR X f r) (w : ∀ x y H Q, r' x y H Q → r x y H Q) : OpR X f r' := fun pins s σ H x y v u Q I rx ry q => h pins s σ H x y v u Q I rx ry (w x y H Q q)
theorem call_wk {f : Value} {r r' : List V → Hp → VK → Prop} (h : CallR X f r) (w : ∀ xs H Q, r' xs H Q → r xs H Q) : CallR X f r' := fun pins s σ H xs us Q I rx q => h pins s σ H xs us Q I rx (w xs H Q q)

/-! ### names -/
def fVar (i : Nat) : TE := fun σ H Q => match σ[i]? with
  | some (some v) => Q v H
  | _ => False
theorem fe_var (i : Nat) {x : Str} {pos : Pos} (hN : X.N[i]? = some x := by rfl) (hv : Vis X.env.scope x := by first | exact Or.inl rfl | exact Or.inr (Or.inl rfl) | exact Or.inr (Or.inr rfl)) (hd : (x == ("__debug__" : Str)) = false := by decide)
    (hcd : (x == ("__classdict__" : Str)) = false := by decide) : PE X (.Name x pos) (fVar i) := pe_wk (pe_var hN hv hd hcd) fun σ H Q q => by
  unfold fVar at q
  split at q
  · exact ⟨_, by assumption, q⟩
  · exact q.elim

theorem same_new {H : Hp} {p : Addr} {o : HO} (h : H p = none) : Same H (upd H p o) := fun b x e => by
  rw [upd_ne (ne_of_none e h)]
  exact e
/-- a new tuple, a new list: behind it a heap that has it and keeps the rest -/
def fTup (t : TA) : TE := fun σ H Q => t σ H fun xs H1 => xs.length ≤ 100000 ∧ ∀ p H2, H1 p = none → Same H1 H2 → H2 p = some (.tup xs) → Q (.ref p) H2
def fLst (t : TA) : TE := fun σ H Q => t σ H fun xs H1 => xs.length ≤ 100000 ∧ ∀ p H2, H1 p = none → Same H1 H2 → H2 p = some (.lst xs) → Q (.ref p) H2
theorem line5 {n : Nat} (h : n ≤ 100000) : n ≤ sizeLine := Nat.le_trans h (by decide)
section
variable {es : List Expr} {t : TA} {pos : Pos}
theorem fe_tup {x1} (h : PA X es t) : PE X (.Tuple es x1 pos) (fTup t) := by
  refine ⟨fun pins s σ H Q I hq => ?_⟩
  refine wpAny_Tuple_spliced (thn (h.run pos pins s σ H _ I hq) fun us s1 ⟨xs, H1, I1, r, z, q⟩ => ⟨by rw [← r.length]; exact line5 z, ?_⟩)
  have hf : H1 s1.heap.objs.size = none := I1.hok.fresh (Nat.le_refl _)
  refine ⟨.ref s1.heap.objs.size, upd H1 s1.heap.objs.size (.tup xs), I1.laid (t' := s1.toks) (fun b u e => Heap.get?_push_of_some _ e) (Nat.le_refl _) ?_, rfl, q _ _ hf (same_new hf) upd_same⟩
  exact ⟨line5 z, us, r, ⟨_, Heap.get?_push_size _ rfl, rfl, _, rfl⟩⟩
theorem fe_lst (h : PA X es t) : PE X (.List es pos) (fLst t) := by
  refine ⟨fun pins s σ H Q I hq => ?_⟩
  refine wpAny_List_spliced (thn (h.run pos pins s σ H _ I hq) fun us s1 ⟨xs, H1, I1, r, z, q⟩ => ⟨by rw [← r.length]; exact line5 z, ?_⟩)
  have hf : H1 s1.heap.objs.size = none := I1.hok.fresh (Nat.le_refl _)
  refine ⟨.ref s1.heap.objs.size, upd H1 s1.heap.objs.size (.lst xs), I1.laid (t' := s1.toks) (fun b u e => Heap.get?_push_of_some _ e) (Nat.le_refl _) ?_, rfl, q _ _ hf (same_new hf) upd_same⟩
  exact ⟨line5 z, us, 0, r, Heap.get?_push_size _ rfl⟩
end
/-! ### a list or a tuple that is read -/
def Rl (K : PySem.W.Frag) (H : Hp) (a : Addr) (xs : List V) : Prop := SqL K H a xs ∨ SqT K H a xs
theorem rl_l {K : PySem.W.Frag} {H : Hp} {a : Addr} {xs : List V} (h : H a = some (.lst xs)) : Rl K H a xs := .inl (SqL.of h)
theorem rl_t {K : PySem.W.Frag} {H : Hp} {a : Addr} {xs : List V} (h : H a = some (.tup xs)) : Rl K H a xs := .inr (SqT.of h)

/-! ### operators by values -/
def fAdd (K : PySem.W.Frag) : R2 := fun x y H Q => match x, y with
  | .int i, .int j => Q (.int (i + j)) H
  | .str a, .str b => a.length + b.length ≤ sizeLine ∧ Q (.str (a ++ b)) H
  | .ref l, .ref b => match H l, H b with
    | some (.lst xs), some (.lst zs) => xs.length + zs.length ≤ sizeLine ∧ ∀ p H1, H p = none → Same H H1 → H1 p = some (.lst (xs ++ zs)) → Q (.ref p) H1
    | _, _ => False
  | _, _ => False
theorem op_fAdd : OpR X (binaryOp .Add) (fAdd X.K) := by
  intro pins s σ H x y v u Q I rx ry h
  cases x <;> cases y <;> first
    | exact False.elim h
    | exact op_add pins s σ H _ _ v u Q I rx ry ⟨_, _, rfl, rfl, h⟩
    | exact op_add_str pins s σ H _ _ v u Q I rx ry ⟨_, _, rfl, rfl, h⟩
    | (dsimp only [fAdd] at h
       split at h
       · exact op_cat pins s σ H _ _ v u Q I rx ry ⟨_, _, _, _, rfl, rfl, by assumption, by assumption, h.1, fun p np => h.2 p _ np (same_new np) upd_same⟩
       · exact h.elim)
def fSub : R2 := fun x y H Q => match x, y with
  | .int i, .int j => Q (.int (i - j)) H
  | _, _ => False
theorem op_fSub : OpR X (binaryOp .Sub) fSub := by
  intro pins s σ H x y v u Q I rx ry h
  cases x <;> cases y <;> first
    | exact False.elim h
    | exact op_sub pins s σ H _ _ v u Q I rx ry ⟨_, _, rfl, rfl, h⟩
def fMul : R2 := fun x y H Q => match x, y with
  | .int i, .int j => IntMulOk i j ∧ Q (.int (i * j)) H
  | .str a, .int j => MulOk a j ∧ Q (.str (Txt.mul a j)) H
  | .ref l, .int k => rRep (.ref l) (.int k) H Q
  | _, _ => False
theorem op_fMul : OpR X (binaryOp .Mult) fMul := by
  intro pins s σ H x y v u Q I rx ry h
  match x, y, rx, ry, h with
  | .int i, .int j, ⟨t, e⟩, ⟨t', e'⟩, ⟨hm, q⟩ =>
    subst e e'
    exact mul_int ⟨.int _, H, I.tok _, ⟨_, rfl⟩, q⟩ hm
  | .str a, .int j, ⟨t, e⟩, ⟨t', e'⟩, ⟨hm, q⟩ =>
    subst e e'
    exact SB.mul hm fun t' k => ⟨.str _, H, I.tok _, ⟨_, rfl⟩, q⟩
  | .ref l, .int k, rx, ry, h => exact op_rep pins s σ H _ _ v u Q I rx ry h
def fDiv : R2 := fun x y H Q => match x, y with
  | .int i, .int j => CDivW i j ∧ Q (.int (i / j)) H
  | _, _ => False
theorem op_fDiv : OpR X (binaryOp .FloorDiv) fDiv := by
  intro pins s σ H x y v u Q I rx ry h
  cases x <;> cases y <;> first
    | exact False.elim h
    | exact op_fdivW pins s σ H _ _ v u Q I rx ry ⟨_, _, rfl, rfl, h⟩
def fMod : R2 := fun x y H Q => match x, y with
  | .int i, .int j => 0 < j ∧ Q (.int (i % j)) H
  | _, _ => False
theorem op_fMod : OpR X (binaryOp .Mod) fMod := by
  intro pins s σ H x y v u Q I rx ry h
  cases x <;> cases y <;> first
    | exact False.elim h
    | exact op_mod pins s σ H _ _ v u Q I rx ry ⟨_, _, rfl, rfl, h⟩
def fNeg : V → Hp → VK → Prop := fun x H Q => match x with
  | .int i => Q (.int (-i)) H
  | _ => False
theorem un_fNeg : UnR X (unaryOp .USub) fNeg := by
  intro pins s σ H x v Q I rx h
  cases x <;> first
    | exact False.elim h
    | exact un_neg pins s σ H _ v Q I rx ⟨_, rfl, h⟩
/-- == of scalars as such, of lists and tuples as data -/
def fEq (K : PySem.W.Frag) (neg : Bool) : R2 := fun x y H Q =>
  if scal x y = true then Q (.bl (if neg = true then !decide (x = y) else decide (x = y))) H
  else ∃ d e, Dp K H x d ∧ Dp K H y e ∧ SeqAt.shaped d = true ∧ SeqAt.shaped e = true ∧ Q (.bl (if neg = true then !PyData.eqv d e else PyData.eqv d e)) H
theorem op_fEq (hu : X.A.units + 64 < cLine) : OpR X (compareOp .Eq) (fEq X.K false) := by
  intro pins s σ H x y v u Q I rx ry h
  unfold fEq at h
  split at h
  · exact op_eq pins s σ H x y v u Q I rx ry ⟨by assumption, h⟩
  · exact op_eqD hu pins s σ H x y v u Q I rx ry h
theorem op_fNe (hu : X.A.units + 64 < cLine) : OpR X (compareOp .NotEq) (fEq X.K true) := by
  intro pins s σ H x y v u Q I rx ry h
  unfold fEq at h
  split at h
  · exact op_ne pins s σ H x y v u Q I rx ry ⟨by assumption, h⟩
  · exact op_neD hu pins s σ H x y v u Q I rx ry h
def fLt : R2 := fun x y H Q => match x, y with
  | .int i, .int j => Q (.bl (decide (i < j))) H
  | .str i, .str j => Q (.bl (decide (i.cps.toList < j.cps.toList))) H
  | _, _ => False
theorem op_fLt : OpR X (compareOp .Lt) fLt := by
  intro pins s σ H x y v u Q I rx ry h
  cases x <;> cases y <;> first
    | exact False.elim h
    | exact op_lt pins s σ H _ _ v u Q I rx ry ⟨_, _, rfl, rfl, h⟩
    | exact op_lt_str pins s σ H _ _ v u Q I rx ry ⟨_, _, rfl, rfl, h⟩
def fLe : R2 := fun x y H Q => match x, y with
  | .int i, .int j => Q (.bl (decide (i ≤ j))) H
  | .str i, .str j => Q (.bl (!decide (j.cps.toList < i.cps.toList))) H
  | _, _ => False
theorem op_fLe : OpR X (compareOp .LtE) fLe := by
  intro pins s σ H x y v u Q I rx ry h
  cases x <;> cases y <;> first
    | exact False.elim h
    | exact op_le pins s σ H _ _ v u Q I rx ry ⟨_, _, rfl, rfl, h⟩
    | exact op_le_str pins s σ H _ _ v u Q I rx ry ⟨_, _, rfl, rfl, h⟩
def fGt : R2 := fun x y H Q => match x, y with
  | .int i, .int j => Q (.bl (decide (j < i))) H
  | .str i, .str j => Q (.bl (decide (j.cps.toList < i.cps.toList))) H
  | _, _ => False
theorem op_fGt : OpR X (compareOp .Gt) fGt := by
  intro pins s σ H x y v u Q I rx ry h
  cases x <;> cases y <;> first
    | exact False.elim h
    | exact op_gt pins s σ H _ _ v u Q I rx ry ⟨_, _, rfl, rfl, h⟩
    | exact op_gt_str pins s σ H _ _ v u Q I rx ry ⟨_, _, rfl, rfl, h⟩
def fGe : R2 := fun x y H Q => match x, y with
  | .int i, .int j => Q (.bl (decide (j ≤ i))) H
  | .str i, .str j => Q (.bl (!decide (i.cps.toList < j.cps.toList))) H
  | _, _ => False
theorem op_fGe : OpR X (compareOp .GtE) fGe := by
  intro pins s σ H x y v u Q I rx ry h
  cases x <;> cases y <;> first
    | exact False.elim h
    | exact op_ge pins s σ H _ _ v u Q I rx ry ⟨_, _, rfl, rfl, h⟩
    | exact op_ge_str pins s σ H _ _ v u Q I rx ry ⟨_, _, rfl, rfl, h⟩
/-- x in y: one sign in a text; a text in a text; a flat value in a list or tuple of flat values -/
def fIn (K : PySem.W.Frag) (neg : Bool) : R2 := fun x y H Q => match x, y with
  | .str a, .str b => match a.cps.toList with
    | [c] => Q (.bl (if neg = true then !decide (c ∈ b.cps.toList) else decide (c ∈ b.cps.toList))) H
    | _ => Q (.bl (if neg = true then !(!(Builtin.Str.occurrences b a 0 b.length 1).isEmpty) else !(Builtin.Str.occurrences b a 0 b.length 1).isEmpty)) H
  | x, .ref p => ∃ xs, Rl K H p xs ∧ flatV x = true ∧ xs.all flatV = true ∧ Q (.bl (if neg = true then !inV x xs else inV x xs)) H
  | _, _ => False
theorem str_one {a : Str} {c : Nat} (h : a.cps.toList = [c]) : a = ⟨#[c]⟩ := by
  obtain ⟨⟨l⟩⟩ := a
  have h' : l = [c] := h
  subst h'
  rfl
theorem op_fIn : OpR X (compareOp .In) (fIn X.K false) := by
  intro pins s σ H x y v u Q I rx ry h
  cases y with
  | str b =>
    cases x with
    | str a =>
      dsimp only [fIn] at h
      split at h
      · rename_i c e
        cases str_one e
        exact op_in_sign pins s σ H _ _ v u Q I rx ry ⟨_, _, rfl, rfl, h⟩
      · exact op_in_str pins s σ H _ _ v u Q I rx ry ⟨_, _, rfl, rfl, h⟩
    | _ => exact False.elim h
  | ref p =>
    have h' : ∃ xs, Rl X.K H p xs ∧ flatV x = true ∧ xs.all flatV = true ∧ Q (.bl (if false = true then !inV x xs else inV x xs)) H := by
      cases x <;> exact h
    obtain ⟨xs, h1, h2, h3, h4⟩ := h'
    exact op_in_seq pins s σ H _ _ v u Q I rx ry ⟨p, xs, rfl, h1, h2, h3, h4⟩
  | _ => cases x <;> exact False.elim h
theorem op_fNotIn : OpR X (compareOp .NotIn) (fIn X.K true) := by
  intro pins s σ H x y v u Q I rx ry h
  cases y with
  | str b =>
    cases x with
    | str a =>
      dsimp only [fIn] at h
      split at h
      · rename_i c e
        cases str_one e
        exact op_notIn_sign pins s σ H _ _ v u Q I rx ry ⟨_, _, rfl, rfl, h⟩
      · exact op_notin_str pins s σ H _ _ v u Q I rx ry ⟨_, _, rfl, rfl, h⟩
    | _ => exact False.elim h
  | ref p =>
    have h' : ∃ xs, Rl X.K H p xs ∧ flatV x = true ∧ xs.all flatV = true ∧ Q (.bl (if true = true then !inV x xs else inV x xs)) H := by
      cases x <;> exact h
    obtain ⟨xs, h1, h2, h3, h4⟩ := h'
    exact op_notIn_seq pins s σ H _ _ v u Q I rx ry ⟨p, xs, rfl, h1, h2, h3, h4⟩
  | _ => cases x <;> exact False.elim h
/-- is, with None on the right -/
def fIsN : R2 := fun x y H Q => y = .non ∧ Q (.bl (decide (x = .non))) H
def fNotN : R2 := fun x y H Q => y = .non ∧ Q (.bl (!decide (x = .non))) H
theorem op_fIsN : OpR X (compareOp .Is) fIsN := op_isN
theorem op_fNotN : OpR X (compareOp .IsNot) fNotN := op_notN
/-- x[i] -/
def fIx (K : PySem.W.Frag) : R2 := fun x y H Q => match x, y with
  | .str z, .int i => z.length ≤ sizeLine ∧ ∃ c, atI z.cps.toList i = some c ∧ Q (.str ⟨#[c]⟩) H
  | .ref p, .int i => ∃ xs, Rl K H p xs ∧ ∃ v, atI xs i = some v ∧ Q v H
  | _, _ => False
theorem ix_fx : IxR X (fIx X.K) := by
  intro e1 e2 pins s σ H x y v u Q I rx ry h hs
  cases x <;> cases y <;> first
    | exact False.elim h
    | (obtain ⟨h1, c, h2, h3⟩ := h
       exact ix_str e1 e2 pins s σ H _ _ v u Q I rx ry ⟨_, _, c, rfl, rfl, h1, h2, h3⟩ hs)
    | (obtain ⟨xs, h1, w, h2, h3⟩ := h
       rcases h1 with h1 | h1
       · exact ix_list e1 e2 pins s σ H _ _ v u Q I rx ry ⟨_, xs, _, w, rfl, rfl, h1, h2, h3⟩ hs
       · exact ix_tup e1 e2 pins s σ H _ _ v u Q I rx ry ⟨_, xs, _, w, rfl, rfl, h1, h2, h3⟩ hs)
/-- x[lo:hi] of a text, of a list -/
def fSl (K : PySem.W.Frag) : V → Option Int → Option Int → Hp → VK → Prop := fun x lo hi H Q => match x with
  | .str z => z.length ≤ sizeLine ∧ Q (.str (cutS z lo hi)) H
  | .ref a => ∃ xs, SqL K H a xs ∧ ∀ p H1, H p = none → Same H H1 → H1 p = some (.lst (cutV xs lo hi)) → Q (.ref p) H1
  | _ => False
theorem sl_fx : SlR X (fSl X.K) := by
  intro pins s σ H x v vl vu lo hi sl Q I rx hs pl pu h
  cases x <;> first
    | exact False.elim h
    | exact sl_str pins s σ H _ v vl vu lo hi sl Q I rx hs pl pu ⟨_, rfl, h⟩
    | (obtain ⟨xs, h1, h2⟩ := h
       exact sl_list pins s σ H _ v vl vu lo hi sl Q I rx hs pl pu ⟨_, xs, rfl, h1, fun p np => h2 p _ np (same_new np) upd_same⟩)
/-- o[i] = v of a list -/
def fSet : TSet := fun o i v H Q => match o, i with
  | .ref p, .int k => match H p with
    | some (.lst xs) => ∃ j, ixN xs.length k = some j ∧ Q (upd H p (.lst (xs.set j v)))
    | _ => False
  | _, _ => False
theorem set_fx : PSet X fSet := by
  intro pins s σ H o i v ov iv u Q I ro ri rv h
  cases o <;> cases i <;> first
    | exact False.elim h
    | (dsimp only [fSet] at h
       split at h
       · obtain ⟨j, h2, h3⟩ := h
         exact set_list pins s σ H _ _ v ov iv u Q I ro ri rv ⟨_, _, _, j, rfl, rfl, by assumption, h2, h3⟩
       · exact h.elim)
/-- name += e -/
def fIAdd : TIp := fun x y H Q => match x, y with
  | .int i, .int j => Q (.int (i + j)) H
  | .str a, .str b => a.length + b.length ≤ sizeLine ∧ Q (.str (a ++ b)) H
  | _, _ => False
theorem ip_fAdd : PIp X .Add fIAdd := by
  intro pins s σ H x y v u Q I rx ry h
  cases x <;> cases y <;> first
    | exact False.elim h
    | exact ip_add pins s σ H _ _ v u Q I rx ry ⟨_, _, rfl, rfl, h⟩
    | exact iop_add_str pins s σ H _ _ v u Q I rx ry ⟨_, _, rfl, rfl, h⟩
def fISub : TIp := fun x y H Q => match x, y with
  | .int i, .int j => Q (.int (i - j)) H
  | _, _ => False
theorem ip_fSub : PIp X .Sub fISub := by
  intro pins s σ H x y v u Q I rx ry h
  cases x <;> cases y <;> first
    | exact False.elim h
    | exact ip_sub pins s σ H _ _ v u Q I rx ry ⟨_, _, rfl, rfl, h⟩
/-! ### built-in calls -/
def fLen (K : PySem.W.Frag) : List V → Hp → VK → Prop := fun xs H Q => match xs with
  | [.str z] => z.length ≤ sizeLine ∧ Q (.int z.length) H
  | [.ref p] => ∃ ys, Rl K H p ys ∧ Q (.int ys.length) H
  | _ => False
theorem call_fLen : CallR X (.builtin "len") (fLen X.K) := by
  intro pins s σ H xs us Q I r h
  match xs, r, h with
  | [.str z], r, h => exact call_len_str pins s σ H _ us Q I r ⟨z, rfl, h⟩
  | [.ref p], r, h =>
    obtain ⟨ys, h1, h2⟩ := h
    exact call_len_seq pins s σ H _ us Q I r ⟨p, ys, rfl, h1, h2⟩
/-- len of a dict -/
def fLenD : List V → Hp → VK → Prop := fun xs H Q => match xs with
  | [.ref p] => ∃ kvs, H p = some (.dK kvs) ∧ Q (.int kvs.length) H
  | _ => False
theorem call_fLenD : CallR X (.builtin "len") fLenD := by
  intro pins s σ H xs us Q I r h
  match xs, r, h with
  | [.ref p], r, h =>
    obtain ⟨kvs, h1, h2⟩ := h
    exact call_lenD pins s σ H _ us Q I r ⟨p, kvs, rfl, h1, h2⟩
def fInt : List V → Hp → VK → Prop := fun xs H Q => match xs with
  | [.int i] => Q (.int i) H
  | [.bl k] => Q (.int (if k then 1 else 0)) H
  | [.str a] => ∃ n, PySem.intText? a = some n ∧ a.length ≤ 640 ∧ Q (.int n) H
  | _ => False
theorem call_fInt : CallR X (.type "int") fInt := by
  intro pins s σ H xs us Q I r h
  match xs, r, h with
  | [.int i], r, h => exact call_int1 pins s σ H _ us Q I r (.inl ⟨i, rfl, h⟩)
  | [.bl k], r, h => exact call_int1 pins s σ H _ us Q I r (.inr ⟨k, rfl, h⟩)
  | [.str a], r, h =>
    obtain ⟨n, h1, h2, h3⟩ := h
    exact call_int_str pins s σ H _ us Q I r ⟨a, n, rfl, h1, h2, h3⟩
def fStr : List V → Hp → VK → Prop := fun xs H Q => match xs with
  | [.int i] => i.natAbs.log2 < 1920 ∧ Q (.str (toString i)) H
  | _ => False
theorem call_fStr : CallR X (.type "str") fStr := by
  intro pins s σ H xs us Q I r h
  match xs, r, h with
  | [.int i], r, h => exact call_str_int pins s σ H _ us Q I r ⟨i, rfl, h⟩
def fAbs : List V → Hp → VK → Prop := fun xs H Q => match xs with
  | [.int i] => Q (.int (if i < 0 then -i else i)) H
  | _ => False
theorem call_fAbs : CallR X (.builtin "abs") fAbs := by
  intro pins s σ H xs us Q I r h
  match xs, r, h with
  | [.int i], r, h => exact call_abs pins s σ H _ us Q I r ⟨i, rfl, h⟩
def fMax : List V → Hp → VK → Prop := fun xs H Q => match xs with
  | [.int i, .int j] => Q (.int (if j > i then j else i)) H
  | _ => False
theorem call_fMax (hc : X.calm = true) : CallR X (.builtin "max") fMax := by
  intro pins s σ H xs us Q I r h
  match xs, r, h with
  | [.int i, .int j], r, h => exact call_max2 hc pins s σ H _ us Q I r ⟨i, j, rfl, h⟩
def fMin : List V → Hp → VK → Prop := fun xs H Q => match xs with
  | [.int i, .int j] => Q (.int (if j < i then j else i)) H
  | _ => False
theorem call_fMin (hc : X.calm = true) : CallR X (.builtin "min") fMin := by
  intro pins s σ H xs us Q I r h
  match xs, r, h with
  | [.int i, .int j], r, h => exact call_min2 hc pins s σ H _ us Q I r ⟨i, j, rfl, h⟩
def fOrd : List V → Hp → VK → Prop := fun xs H Q => match xs with
  | [.str x] => ∃ c, x.cps.toList = [c] ∧ Q (.int (c : Nat)) H
  | _ => False
theorem call_fOrd : CallR X (.builtin "ord") fOrd := by
  intro pins s σ H xs us Q I r h
  match xs, r, h with
  | [.str x], r, h =>
    obtain ⟨c, h1, h2⟩ := h
    cases str_one h1
    exact call_ord pins s σ H _ us Q I r ⟨_, rfl, rfl, h2⟩
def fChr : List V → Hp → VK → Prop := fun xs H Q => match xs with
  | [.int i] => (0 ≤ i ∧ i ≤ 1114111) ∧ Q (.str ⟨#[i.toNat]⟩) H
  | _ => False
theorem call_fChr : CallR X (.builtin "chr") fChr := by
  intro pins s σ H xs us Q I r h
  match xs, r, h with
  | [.int i], r, h => exact call_chr pins s σ H _ us Q I r ⟨i, rfl, h.1.1, h.1.2, h.2⟩
/-- list(x): a new list -/
def fListOf (K : PySem.W.Frag) : List V → Hp → VK → Prop := fun xs H Q => match xs with
  | [.ref p] => ∃ ys, Rl K H p ys ∧ ∀ l H1, H l = none → Same H H1 → H1 l = some (.lst ys) → Q (.ref l) H1
  | _ => False
theorem call_fListOf : CallR X (.type "list") (fListOf X.K) := by
  intro pins s σ H xs us Q I r h
  match xs, r, h with
  | [.ref p], r, h =>
    obtain ⟨ys, h1, h2⟩ := h
    exact call_list_of pins s σ H _ us Q I r ⟨p, ys, rfl, h1, fun l nl => h2 l _ nl (same_new nl) upd_same⟩
/-! ### isinstance of a built-in class -/
/-- a value's built-in class (by the abstract heap), where it is plain -/
def tyOf (H : Hp) : V → Option String
  | .non => some "NoneType"
  | .bl _ => some "bool"
  | .int _ => some "int"
  | .str _ => some "str"
  | .ref a => match H a with
    | some (.lst _) => some "list"
    | some (.tup _) => some "tuple"
    | some (.dK _) => some "dict"
    | some (.dT _) => some "dict"
    | _ => none
  | _ => none
theorem tyX_of {K : PySem.W.Frag} {H : Hp} {x : V} {t : String} (h : tyOf H x = some t) : TyX K H x (.type t) := by
  cases x with
  | non => cases h; exact .base .non
  | bl b => cases h; exact .base (.bl b)
  | int b => cases h; exact .base (.int b)
  | str b => cases h; exact .base (.str b)
  | ref a =>
    dsimp only [tyOf] at h
    split at h <;> first
      | (cases h; exact .base (.lst (by assumption)))
      | (cases h; exact .base (.tup (by assumption)))
      | (cases h; exact .base (.dK (by assumption)))
      | (cases h; exact .base (.dT (by assumption)))
      | cases h
  | _ => cases h
/-- isinstance(x, T), T a built-in class -/
def fIsi : List V → Hp → VK → Prop := fun xs H Q => match xs with
  | [x, .ty n] => ∃ t, tyOf H x = some t ∧ ∃ b, kitB t n = some b ∧ Q (.bl b) H
  | _ => False
theorem call_fIsi : CallR X (.builtin "isinstance") fIsi := by
  intro pins s σ H xs us Q I r h
  match xs, r, h with
  | [x, .ty n], r, h =>
    obtain ⟨t, h1, b, h2, h3⟩ := h
    exact call_isi pins s σ H _ us Q I r ⟨x, .ty n, _, _, b, rfl, .ty n, tyX_of h1, kit_ty h2, h3⟩
/-! ### methods of built-in types -/
def isLst : V → Hp → Prop := fun x H => match x with
  | .ref p => match H p with
    | some (.lst _) => True
    | _ => False
  | _ => False
theorem isLst_ty {K : PySem.W.Frag} {x : V} {H : Hp} (h : isLst x H) : tyV K "list" x H := by
  unfold isLst at h
  split at h
  · split at h
    · exact .inl ⟨rfl, _, SqL.of (by assumption)⟩
    · exact h.elim
  · exact h.elim
def isDct : V → Hp → Prop := fun x H => match x with
  | .ref p => match H p with
    | some (.dK _) => True
    | _ => False
  | _ => False
theorem isDct_ty {K : PySem.W.Frag} {x : V} {H : Hp} (h : isDct x H) : tyV K "dict" x H := by
  unfold isDct at h
  split at h
  · split at h
    · exact .inr (.inr (.inl ⟨rfl, .inl ⟨_, by assumption⟩⟩))
    · exact h.elim
  · exact h.elim
def isStr : V → Hp → Prop := fun x _ => match x with
  | .str _ => True
  | _ => False
theorem isStr_ty {K : PySem.W.Frag} {x : V} {H : Hp} (h : isStr x H) : tyV K "str" x H := by
  cases x <;> first | exact rfl | exact False.elim h
section
variable {o e : Expr} {es : List Expr} {to te : TE} {t : TA} {apos cpos : Pos} {T id : String} {name : Str} {r : V → List V → Hp → VK → Prop} {ty : V → Hp → Prop}
def fBM0 (ty : V → Hp → Prop) (r : V → List V → Hp → VK → Prop) (to : TE) : TE := fun σ H Q => to σ H fun x H1 => ty x H1 ∧ r x [] H1 Q
def fBM (ty : V → Hp → Prop) (r : V → List V → Hp → VK → Prop) (to : TE) (t : TA) : TE := fun σ H Q => to σ H fun x H1 => ty x H1 ∧ t σ H1 fun xs H2 => r x xs H2 Q
theorem fe_bm0 (pa : PlainAttrs T) (slot : Slot T name id) (hty : typeOf (.builtin id) = pure (.type "method_descriptor")) (hT : ∀ {K : PySem.W.Frag} {x : V} {H : Hp}, ty x H → tyV K T x H) (hm : MtR X id r) (ho : PE X o to)
    (hbase : attributeBase o name X.env (eval o X.env) = eval o X.env := by rfl) (hline : (apos.endLine == cpos.line) = true := by rfl) : PE X (.Call (.Attribute o name apos) [] [] cpos) (fBM0 ty r to) := by
  refine ⟨fun pins s σ H Q I h => ?_⟩
  refine wpAny_Call_method0_late hbase hline (thn (ho.run pins s σ H _ I h) fun v s1 ⟨x, H1, I1, r1, tyx, q1⟩ => ?_)
  obtain ⟨h1, h2⟩ := tyV_is I1 r1 (hT tyx)
  exact ⟨T, id, pa, slot, hty, h1, h2, Calls.callWith_builtin rfl (PySem.evalArgs_none (hm pins s1 σ H1 x [] v [] Q I1 r1 .nil q1))⟩
theorem fe_bm (pa : PlainAttrs T) (slot : Slot T name id) (hty : typeOf (.builtin id) = pure (.type "method_descriptor")) (hT : ∀ {K : PySem.W.Frag} {x : V} {H : Hp}, ty x H → tyV K T x H) (hm : MtR X id r) (ho : PE X o to) (ha : PA X (e :: es) t)
    (hbase : attributeBase o name X.env (eval o X.env) = eval o X.env := by rfl)
    (hfew : ((backTo cpos (starEach (e :: es) X.env)).all (fun x => !x.1) && (backToKw cpos (keywordEach [] X.env)).all (fun x => x.1.isSome)
      && decide ((e :: es).length + ([] : List Keyword).length + (if ([] : List Keyword).isEmpty then 0 else 1) < 30)) = true := by rfl)
    (hline : (apos.endLine == cpos.line) = true := by rfl) (hs : starEach (e :: es) X.env = (false, eval e X.env) :: starEach es X.env := by rfl) (hplain : (backTo cpos (starEach es X.env)).any (·.1) = false := by rfl) :
    PE X (.Call (.Attribute o name apos) (e :: es) [] cpos) (fBM ty r to t) := by
  refine ⟨fun pins s σ H Q I h => ?_⟩
  refine wpAny_Call_method_late hbase hfew hline rfl (thn (ho.run pins s σ H _ I h) fun v s1 ⟨x, H1, I1, r1, tyx, q1⟩ => ?_)
  obtain ⟨h1, h2⟩ := tyV_is I1 r1 (hT tyx)
  refine ⟨T, id, pa, slot, hty, h1, h2, ?_⟩
  have hA := ha.run cpos pins s1 σ H1 _ I1 q1
  rw [hs] at hA ⊢
  refine Calls.callWith_builtin (by show (false || (backTo cpos (starEach es X.env)).any (·.1)) = false; rw [hplain] <;> rfl) (Calls.evalArgs_plain ?_)
  exact thn hA fun us s2 ⟨vs, H2, I2, r2, q2⟩ => hm pins s2 σ H2 x vs v us Q I2 r1 r2 q2
end
def fAppend : V → List V → Hp → VK → Prop := fun x vs H Q => match x, vs with
  | .ref l, [y] => match H l with
    | some (.lst xs) => xs.length < sizeLine ∧ Q .non (upd H l (.lst (xs ++ [y])))
    | _ => False
  | _, _ => False
theorem mt_fAppend : MtR X "list.append" fAppend := by
  intro pins s σ H x xs v us Q I rx rs h
  unfold fAppend at h
  split at h
  · split at h
    · exact mt_append pins s σ H _ _ v us Q I rx rs ⟨_, _, _, rfl, rfl, by assumption, h⟩
    · exact h.elim
  · exact h.elim
/-- a text's method with one text, by its function -/
def fS1 (g : Str → Str → V) : V → List V → Hp → VK → Prop := fun x vs H Q => match x, vs with
  | .str a, [.str b] => Q (g a b) H
  | _, _ => False
theorem mt_fS1 {id : String} {g : Str → Str → V} (h : MtR X id (fun x xs H Q => ∃ a b, x = .str a ∧ xs = [.str b] ∧ Q (g a b) H)) : MtR X id (fS1 g) := by
  intro pins s σ H x xs v us Q I rx rs q
  unfold fS1 at q
  split at q
  · exact h pins s σ H _ _ v us Q I rx rs ⟨_, _, rfl, rfl, q⟩
  · exact q.elim
theorem mt_fCount : MtR X "str.count" (fS1 fun a b => .int (Txt.count a b)) := mt_fS1 mt_count
theorem mt_fFind : MtR X "str.find" (fS1 fun a b => .int (Txt.find a b)) := mt_fS1 mt_find
theorem mt_fRfind : MtR X "str.rfind" (fS1 fun a b => .int (Txt.rfind a b)) := mt_fS1 mt_rfind
theorem mt_fStarts : MtR X "str.startswith" (fS1 fun a b => .bl (Txt.startswith a b)) := mt_fS1 mt_startswith
theorem mt_fEnds : MtR X "str.endswith" (fS1 fun a b => .bl (Txt.endswith a b)) := mt_fS1 mt_endswith

/-! ### statements, loops -/
theorem seq_ {t1 t2 : TS} {D : Ends} {σ : L2.St} {H : Hp} (h : ∀ N : L2.St → Hp → Prop, (∀ σ H, t2 D σ H → N σ H) → t1 { D with nx := N } σ H) : tSeq t1 t2 D σ H := h _ fun _ _ x => x
/-- what follows is a word of its own -/
theorem cut_ {t : TS} {D : Ends} {σ : L2.St} {H : Hp} (h : ∀ N : L2.St → Hp → Prop, (∀ σ H, D.nx σ H → N σ H) → t { D with nx := N } σ H) : t D σ H := h _ fun _ _ x => x
theorem ifs_ {c : TT} {t u : TS} {D : Ends} {σ : L2.St} {H : Hp} (h : c σ H fun b H1 => if b = true then t D σ H1 else u D σ H1) : tIfS c t u D σ H := h
/-- a loop that is at hand -/
def Loop (J : It) (g : TG) (tb : TS) (D : Ends) (σ : L2.St) (H : Hp) : Prop := ∃ W : Nat → Nat → L2.St → Hp → Prop, (∃ m, W 0 m σ H) ∧ ∀ i m σ H, W i m σ H →
  (J.stop i H ∧ D.nx σ H) ∨ (J.go i H ∧ ∃ N : L2.St → Hp → Prop, (∀ σ' H', N σ' H' → ∃ m', m' < m ∧ W (i + 1) m' σ' H') ∧ ∀ x H', J.yld i H x H' → g x σ H' fun σ2 H2 => tb { D with nx := N, ct := N, bk := D.nx } σ2 H2)
theorem for_eq (wi : TI) (g : TG) (tb : TS) (D : Ends) (σ : L2.St) (H : Hp) : tFor wi g tb D σ H = wi σ H fun J H1 => Loop J g tb D σ H1 := rfl
theorem for_ {wi : TI} {g : TG} {tb : TS} {D : Ends} {σ : L2.St} {H : Hp} (h : wi σ H fun J H1 => Loop J g tb D σ H1) : tFor wi g tb D σ H := h
theorem loop_range {lo : Int} {n : Nat} {g : TG} {tb : TS} {D : Ends} {σ : L2.St} {H : Hp} (Pv : Nat → L2.St → Hp → Prop) (h0 : Pv 0 σ H)
    (hs : ∀ i σ H, i < n → Pv i σ H → g (.int (lo + i)) σ H fun σ2 H2 => tb { D with nx := Pv (i + 1), ct := Pv (i + 1), bk := D.nx } σ2 H2) (hd : ∀ σ H, Pv n σ H → D.nx σ H) : Loop (Itr lo n) g tb D σ H := for_range Pv h0 hs hd
theorem loop_list {K : PySem.W.Frag} {a : Addr} {g : TG} {tb : TS} {D : Ends} {σ : L2.St} {H : Hp} (xs : List V) (Pv : Nat → L2.St → Hp → Prop) (h0 : Pv 0 σ H) (hl : ∀ i σ H, i ≤ xs.length → Pv i σ H → SqL K H a xs)
    (hs : ∀ i x σ H, xs[i]? = some x → Pv i σ H → g x σ H fun σ2 H2 => tb { D with nx := Pv (i + 1), ct := Pv (i + 1), bk := D.nx } σ2 H2) (hd : ∀ σ H, Pv xs.length σ H → D.nx σ H) : Loop (Itl K a) g tb D σ H := for_list Pv h0 hl hs hd
theorem loop_tup {K : PySem.W.Frag} {a : Addr} {g : TG} {tb : TS} {D : Ends} {σ : L2.St} {H : Hp} (xs : List V) (Pv : Nat → L2.St → Hp → Prop) (h0 : Pv 0 σ H) (hl : ∀ i σ H, i ≤ xs.length → Pv i σ H → SqT K H a xs)
    (hs : ∀ i x σ H, xs[i]? = some x → Pv i σ H → g x σ H fun σ2 H2 => tb { D with nx := Pv (i + 1), ct := Pv (i + 1), bk := D.nx } σ2 H2) (hd : ∀ σ H, Pv xs.length σ H → D.nx σ H) : Loop (Itt K a) g tb D σ H := for_tup Pv h0 hl hs hd
end
end Fx

/-! ### defs by name -/
namespace Fx
open PySem PySem.Spec PyProof.Rows L2
/-- the def that stands at the module's name x keeps the promise sp -/
structure Has (P : Program) (w : World) (K : PySem.W.Frag) (mg : Str → Option Value) (base : Heap) (CX : CXT) (x : Str) (k : Nat) (ps : List Str) (sp : Sp) : Prop where
  ex : ∃ (f : Addr) (fd : FuncData), FnOk P w K mg base CX k f fd ps sp ∧ Binds K fd ps [] ∧ mg x = some (.ref f) ∧ PySem.W.keepIn K (.ref f) = true
/-- what the top has written of a def -/
structure FnFact (K : PySem.W.Frag) (x qual : Str) (st : Stmt) : Prop where
  ex : ∃ (f : Addr) (oc : Value) (od an : Option Addr) (sl : Array (Option Value)) (kV dc pm cd ct : Value),
    PySem.W.nsIn K mainGlobals x = some (some (.ref f)) ∧ K.lookup f = some ⟨oc, od, .func (PySem.W.fnOf x qual (defArgs st) (defBody st) (defScope st) .none kV dc pm an cd ct), sl⟩ ∧
    PySem.W.codeIn K cd qual = true ∧ PySem.W.keepIn K (.ref f) = true
theorem FnFact.of {K : PySem.W.Frag} {x qual : Str} {st : Stmt} {f : Addr} {oc : Value} {od an : Option Addr} {sl : Array (Option Value)} {kV dc pm cd ct : Value}
    (a : PySem.W.nsIn K mainGlobals x = some (some (.ref f))) (l : K.lookup f = some ⟨oc, od, .func (PySem.W.fnOf x qual (defArgs st) (defBody st) (defScope st) .none kV dc pm an cd ct), sl⟩)
    (c : PySem.W.codeIn K cd qual = true) (k : PySem.W.keepIn K (.ref f) = true) : FnFact K x qual st := ⟨f, oc, od, an, sl, kV, dc, pm, cd, ct, a, l, c, k⟩
/-- a def as it stands -/
structure At (K : PySem.W.Frag) (mg : Str → Option Value) (x qual : Str) (st : Stmt) (ps : List Str) : Prop where
  ex : ∃ (f : Addr) (fd : FuncData), Fun K x qual st f fd ∧ Binds K fd ps [] ∧ mg x = some (.ref f)
theorem At.of {K : PySem.W.Frag} {mg : Str → Option Value} {x qual : Str} {st : Stmt} {ps : List Str} {h : Heap} (X : K.In h) (G : h.Ns mainGlobals mg) (F : FnFact K x qual st)
    (hb : ∀ (kV doc pm : Value) (an : Option Addr) (cdv ct : Value) (us : List Value), us.length = ps.length → bindArgs (PySem.W.fnOf x qual (defArgs st) (defBody st) (defScope st) .none kV doc pm an cdv ct) ⟨us, []⟩ = pure (ps.zip us)) : At K mg x qual st ps := by
  obtain ⟨f, oc, od, an, sl, kV, dc, pm, cd, ct, a, l, c, k⟩ := F.ex
  have F1 := fun_mk (st := st) l c k
  exact ⟨_, _, F1, F1.binds hb, PySem.W.mg_of X G a⟩
section
variable {P : Program} {w : World} {K : PySem.W.Frag} {mg : Str → Option Value} {base : Heap}
theorem has_of {x qual : Str} {st : Stmt} {N ps : List Str} {k : Nat} {sp : Sp} (A : At K mg x qual st ps) (S : FnScope N ps (defScope st)) (len : ∀ vs H Q E, sp vs H Q E → vs.length = ps.length)
    (hbody : ∀ (cdv : Value) (f : Addr) (A : Around) (outer : List Env) (s : Shared) (H : Hp) (vs : List V) (Q : VK) (E : XK), Room k (A.deeper (envOfC qual (defScope st) s.heap.objs.size f cdv)) → sp vs H Q E →
      ∃ t, PSs (cxOf CX0 P w K mg base N qual (defScope st) f cdv A outer s H E).nox (defBody st) t ∧ t { nx := fun _ H' => Q .non H', rt := Q } (start N vs) H) : Has P w K mg base CX0 x (k + 1) ps sp := by
  obtain ⟨f, fd, F, B, G⟩ := A.ex
  exact ⟨f, fd, F.ok S len fun cdv A outer s H vs Q E hr h => hbody cdv f A outer s H vs Q E hr h, B, G, F.kp⟩
theorem Has.mono {CX : CXT} {x : Str} {j k : Nat} {ps : List Str} {sp : Sp} (h : Has P w K mg base CX x j ps sp) (hk : j ≤ k) : Has P w K mg base CX x k ps sp := by
  obtain ⟨f, fd, F, B, G, kp⟩ := h.ex
  exact ⟨f, fd, F.mono hk, B, G, kp⟩
end
section
variable {X : Cx} {CX : CXT} {k : Nat} {x : Str} {p pos : Pos} {e : Expr} {es : List Expr} {t : TA} {ps : List Str} {sp : Sp} {E : XK}
theorem fe_call (h : Has X.prog X.w X.K X.mg X.base CX x k ps sp) (hr : Room k X.A) (hg : Gl X x) (hx : Passes CX X E) (ha : PA X (e :: es) t) (hd : (x == ("__debug__" : Str)) = false := by decide)
    (hs : starEach (e :: es) X.env = (false, eval e X.env) :: starEach es X.env := by rfl) (hplain : (backTo pos (starEach es X.env)).any (·.1) = false := by rfl) : PE X (.Call (.Name x p) (e :: es) [] pos) (tCall sp [] E t) := by
  obtain ⟨f, fd, F, B, G, kp⟩ := h.ex
  exact pe_call F hr hg G kp B .nil hx ha hd hs hplain
theorem fe_call0 (h : Has X.prog X.w X.K X.mg X.base CX x k ps sp) (hr : Room k X.A) (hg : Gl X x) (hx : Passes CX X E) (hd : (x == ("__debug__" : Str)) = false := by decide) : PE X (.Call (.Name x p) [] [] pos) (tCall sp [] E tNil) := by
  obtain ⟨f, fd, F, B, G, kp⟩ := h.ex
  exact pe_call0 F hr hg G kp B .nil hx hd
end
end Fx

namespace Fx
open PySem PySem.Spec PyProof.Rows L2
section
variable {X : Cx}
/-- a built-in class as a value -/
theorem fe_ty {x : Str} {n : String} {pos : Pos} (hg : Gl X x) (hm : X.mg x = none) (hv : bootBuiltins x = some (.type n)) (hn : x ≠ "__name__" := by decide) (hd : (x == ("__debug__" : Str)) = false := by decide) : PE X (.Name x pos) (tC (.ty n)) := pe_bltn hg hm hv rfl hn hd
end
/-! ### texts as lists -/
def S (l : List Nat) : Str := ⟨l.toArray⟩
def L (z : Str) : List Nat := z.cps.toList
theorem S_L (z : Str) : S (L z) = z := by
  obtain ⟨⟨l⟩⟩ := z
  rfl
theorem L_S (l : List Nat) : L (S l) = l := rfl
theorem S_len (l : List Nat) : (S l).length = l.length := by simp [S, Str.length]
theorem L_len (z : Str) : (L z).length = z.length := by simp [L, Str.length]
theorem S_app (a b : List Nat) : S a ++ S b = S (a ++ b) := by
  show (⟨a.toArray ++ b.toArray⟩ : Str) = ⟨(a ++ b).toArray⟩
  simp
theorem S_cps (l : List Nat) : (S l).cps.toList = l := by simp [S]
theorem S_one (c : Nat) : (⟨#[c]⟩ : Str) = S [c] := rfl
theorem S_inj {a b : List Nat} (h : S a = S b) : a = b := by
  have := congrArg L h
  exact this
theorem cut_take (l : List Nat) {o : Int} (h0 : 0 ≤ o) (h1 : o ≤ l.length) : cutS (S l) none (some o) = S (l.take o.toNat) := by
  unfold cutS
  obtain ⟨k, rfl⟩ := Int.eq_ofNat_of_zero_le h0
  have e : HT.sIx (S l).length (S l).length (some (k : Int)) = min k (S l).length := HT.sIx_nat _ _ _
  rw [HT.sIx_none, e, S_len, S_cps]
  have : min k l.length = k := by omega
  rw [this]
  simp [S]
theorem cut_drop (l : List Nat) {o : Int} (h0 : 0 ≤ o) (h1 : o ≤ l.length) : cutS (S l) (some o) none = S (l.drop o.toNat) := by
  unfold cutS
  obtain ⟨k, rfl⟩ := Int.eq_ofNat_of_zero_le h0
  have e : HT.sIx (S l).length 0 (some (k : Int)) = min k (S l).length := HT.sIx_nat _ _ _
  rw [HT.sIx_none, e, S_len, S_cps]
  have : min k l.length = k := by omega
  rw [this]
  have : (l.drop k).take (l.length - k) = l.drop k := List.take_of_length_le (by rw [List.length_drop]; omega)
  simp [S, this]
theorem cut_mid (l : List Nat) {a b : Int} (h0 : 0 ≤ a) (h1 : a ≤ b) (h2 : b ≤ l.length) : cutS (S l) (some a) (some b) = S ((l.drop a.toNat).take (b.toNat - a.toNat)) := by
  unfold cutS
  obtain ⟨k, rfl⟩ := Int.eq_ofNat_of_zero_le h0
  obtain ⟨m, rfl⟩ := Int.eq_ofNat_of_zero_le (Int.le_trans h0 h1)
  have e1 : HT.sIx (S l).length 0 (some (k : Int)) = min k (S l).length := HT.sIx_nat _ _ _
  have e2 : HT.sIx (S l).length (S l).length (some (m : Int)) = min m (S l).length := HT.sIx_nat _ _ _
  rw [e1, e2, S_len, S_cps]
  have q1 : min k l.length = k := by omega
  have q2 : min m l.length = m := by omega
  rw [q1, q2]
  rfl
theorem len_line {n : Nat} (h : n ≤ 100000) : n ≤ sizeLine := Nat.le_trans h (by decide)
theorem len_line' {n : Nat} (h : n < 100000) : n < sizeLine := Nat.lt_of_lt_of_le h (by decide)
theorem small_div {i j : Int} (h : 0 < j) (h2 : j < 1073741824) : CDivW i j := wide_div (b := 30) h (by omega) (by decide) (by decide)
theorem mul_left {i j : Int} (h : -(2 ^ 64) < i) (h2 : i < 2 ^ 64) : IntMulOk i j := CMul.ok (.inl ⟨h, h2⟩)
theorem mul_right {i j : Int} (h : -(2 ^ 64) < j) (h2 : j < 2 ^ 64) : IntMulOk i j := CMul.ok (.inr ⟨h, h2⟩)
theorem same_mut {H H' : Hp} {p : Addr} {o : HO} (s : Same H H') (h : H p = none) : Same H (upd H' p o) := fun b x e => by
  rw [upd_ne (ne_of_none e h)]
  exact s b x e
theorem ex2 {α β : Type} {a : α} {b : β} {P : α → β → Prop} : (∃ i j, (a = i ∧ b = j) ∧ P i j) ↔ P a b := ⟨fun ⟨_, _, ⟨e1, e2⟩, h⟩ => e1 ▸ e2 ▸ h, fun h => ⟨a, b, ⟨rfl, rfl⟩, h⟩⟩
theorem at_ints {ns : List Int} {i : Int} (h0 : 0 ≤ i) (h1 : i < ns.length) : ∃ z, atI (ns.map V.int) i = some (.int z) := by
  obtain ⟨k, rfl⟩ := Int.eq_ofNat_of_zero_le h0
  have hk : k < ns.length := by omega
  exact ⟨ns[k], atI_nat (by rw [List.getElem?_map, List.getElem?_eq_getElem hk]; rfl)⟩
theorem at_strs {ns : List Str} {i : Int} (h0 : 0 ≤ i) (h1 : i < ns.length) : ∃ z, z ∈ ns ∧ atI (ns.map V.str) i = some (.str z) := by
  obtain ⟨k, rfl⟩ := Int.eq_ofNat_of_zero_le h0
  have hk : k < ns.length := by omega
  exact ⟨ns[k], List.getElem_mem hk, atI_nat (by rw [List.getElem?_map, List.getElem?_eq_getElem hk]; rfl)⟩
theorem at_vs {xs : List V} {i : Int} (h0 : 0 ≤ i) (h1 : i < xs.length) : ∃ z, z ∈ xs ∧ atI xs i = some z := by
  obtain ⟨k, rfl⟩ := Int.eq_ofNat_of_zero_le h0
  have hk : k < xs.length := by omega
  exact ⟨xs[k], List.getElem_mem hk, atI_nat (List.getElem?_eq_getElem hk)⟩
end Fx

set_option Elab.async false
/-! newlines counted, the last one found -/
namespace My
open PySem PySem.StrLaws PySem.Builtin.Str
open Fx (S)
theorem at_one (l : List Nat) (c k : Nat) : At (S l) ⟨#[c]⟩ (S l).length k ↔ l[k]? = some c := subAt_one (S l) c k
theorem count_chain (l : List Nat) (c : Nat) : ∀ (cuts : List Nat) (a f : Nat), ChainG (S l) ⟨#[c]⟩ (S l).length a cuts f → (∀ k, f ≤ k → ¬ At (S l) ⟨#[c]⟩ (S l).length k) → cuts.length = (l.drop a).count c
  | [], a, f, h, hn => by
    have e : f = a := h
    subst e
    symm
    rw [List.length_nil, List.count_eq_zero]
    intro hm
    obtain ⟨j, hj⟩ := List.getElem?_of_mem hm
    rw [List.getElem?_drop] at hj
    exact hn (f + j) (by omega) ((at_one l c _).mpr hj)
  | d :: r, a, f, h, hn => by
    obtain ⟨h1, h2, h3, h4⟩ := h
    have ih := count_chain l c r (d + 1) f h4 hn
    have hd : l[d]? = some c := (at_one l c d).mp h2
    have hlt : d < l.length := (List.getElem?_eq_some_iff.mp hd).1
    have e1 : l.drop a = (l.drop a).take (d - a) ++ (l.drop a).drop (d - a) := (List.take_append_drop _ _).symm
    have e2 : (l.drop a).drop (d - a) = l.drop d := by rw [List.drop_drop]; congr 1; omega
    have e3 : l.drop d = c :: l.drop (d + 1) := by
      rw [List.drop_eq_getElem_cons hlt]
      congr 1
      exact Option.some.inj ((List.getElem?_eq_getElem hlt).symm.trans hd)
    have e4 : ((l.drop a).take (d - a)).count c = 0 := by
      rw [List.count_eq_zero]
      intro hm
      obtain ⟨j, hj⟩ := List.getElem?_of_mem hm
      have hj1 : j < d - a := by
        have := (List.getElem?_eq_some_iff.mp hj).1
        rw [List.length_take] at this
        omega
      rw [List.getElem?_take_of_lt hj1, List.getElem?_drop] at hj
      exact h3 (a + j) (by omega) (by omega) ((at_one l c _).mpr hj)
    rw [e1, e2, e3, List.count_append, e4, List.count_cons_self, List.length_cons, ih]
    omega
theorem count_eq (l : List Nat) (c : Nat) : Txt.count (S l) ⟨#[c]⟩ = ((l.count c : Nat) : Int) := by
  unfold Txt.count
  obtain ⟨f, h1, h2⟩ := occ_tight (S l) ⟨#[c]⟩ (Nat.le_refl 1)
  rw [count_chain l c _ 0 f h1 h2, List.drop_zero]
theorem rfind_snoc (l : List Nat) (d c : Nat) : Txt.rfind (S (l ++ [d])) ⟨#[c]⟩ = if d = c then (l.length : Int) else Txt.rfind (S l) ⟨#[c]⟩ := by
  have g : ∀ k : Nat, (l ++ [d])[k]? = some c → k < l.length + 1 := fun k h => by
    have := (List.getElem?_eq_some_iff.mp h).1
    rw [List.length_append] at this
    exact this
  have lt : ∀ k : Nat, k < l.length → (l ++ [d])[k]? = l[k]? := fun k h => List.getElem?_append_left h
  have la : (l ++ [d])[l.length]? = some d := by simp
  unfold Txt.rfind
  by_cases e : d = c
  · subst e
    rw [if_pos rfl]
    rcases last_spec (S (l ++ [d])) ⟨#[d]⟩ with ⟨h1, h2⟩ | ⟨k, h1, h2, h3⟩
    · exact absurd ((at_one _ _ _).mpr la) (h2 l.length)
    · rw [h1]
      have hk := g k ((at_one _ _ _).mp h2)
      have : ¬ k < l.length := fun z => h3 l.length z ((at_one _ _ _).mpr la)
      have ek : k = l.length := by omega
      rw [ek]
  · rw [if_neg e]
    have iff : ∀ k : Nat, (l ++ [d])[k]? = some c ↔ l[k]? = some c := fun k => by
      constructor
      · intro h
        have hk := g k h
        by_cases q : k < l.length
        · rw [← lt k q]; exact h
        · have ek : k = l.length := by omega
          rw [ek, la] at h
          exact absurd (Option.some.inj h) e
      · intro h
        rw [lt k (List.getElem?_eq_some_iff.mp h).1]; exact h
    rcases last_spec (S (l ++ [d])) ⟨#[c]⟩ with ⟨h1, h2⟩ | ⟨k, h1, h2, h3⟩
    · rcases last_spec (S l) ⟨#[c]⟩ with ⟨q1, q2⟩ | ⟨j, q1, q2, q3⟩
      · rw [h1, q1]
      · exact absurd ((at_one _ _ _).mpr ((iff j).mpr ((at_one _ _ _).mp q2))) (h2 j)
    · rcases last_spec (S l) ⟨#[c]⟩ with ⟨q1, q2⟩ | ⟨j, q1, q2, q3⟩
      · exact absurd ((at_one _ _ _).mpr ((iff k).mp ((at_one _ _ _).mp h2))) (q2 k)
      · rw [h1, q1]
        have a1 : ¬ k < j := fun z => h3 j z ((at_one _ _ _).mpr ((iff j).mpr ((at_one _ _ _).mp q2)))
        have a2 : ¬ j < k := fun z => q3 k z ((at_one _ _ _).mpr ((iff k).mp ((at_one _ _ _).mp h2)))
        have ek : k = j := by omega
        rw [ek]
theorem rfind_nil (c : Nat) : Txt.rfind (S []) ⟨#[c]⟩ = -1 := by
  unfold Txt.rfind
  rcases last_spec (S []) ⟨#[c]⟩ with ⟨h1, h2⟩ | ⟨k, h1, h2, h3⟩
  · rw [h1]
  · have := (at_one [] c k).mp h2
    simp at this
/-- the line and the column behind a text's part -/
def line (l : List Nat) : Int := ((l.count 10 : Nat) : Int) + 1
def col (l : List Nat) : Int := (l.length : Int) - Txt.rfind (S l) ⟨#[10]⟩
theorem line_nil : line [] = 1 := rfl
theorem col_nil : col [] = 1 := by
  unfold col
  rw [rfind_nil]
  rfl
theorem line_snoc (l : List Nat) (d : Nat) : line (l ++ [d]) = if d = 10 then line l + 1 else line l := by
  unfold line
  rw [List.count_append]
  by_cases e : d = 10
  · subst e
    rw [if_pos rfl, List.count_singleton_self]
    omega
  · have : ([d] : List Nat).count 10 = 0 := by
      rw [List.count_eq_zero]
      intro h
      exact e (List.mem_singleton.mp h).symm
    rw [if_neg e, this]
    omega
theorem col_snoc (l : List Nat) (d : Nat) : col (l ++ [d]) = if d = 10 then 1 else col l + 1 := by
  unfold col
  rw [rfind_snoc, List.length_append, List.length_singleton]
  by_cases e : d = 10
  · rw [if_pos e, if_pos e]; omega
  · rw [if_neg e, if_neg e]; omega
end My

set_option Elab.async false
set_option linter.all false
set_option maxRecDepth 100000
set_option maxHeartbeats 1000000
namespace My
open PySem L2 Fx
local macro_rules | `(tactic| walk_at "fx") => `(tactic| try simp only [L2.start, List.map_cons, List.map_nil, List.length_cons, List.length_nil, Nat.reduceAdd, Nat.reduceSub, List.reduceReplicate, List.cons_append, List.nil_append, List.append_nil,
  tSeq, fVar, tVar, tC, tOp, tUn, tCons, tNil, fTup, fLst, tAsg, gName, tRet, tRetN, tDrop, tNext, tIf, tAnd, tOr, tNot, tTest, tB, tAug, tChain, tNotV, tAndV, tOrV, tSl, tPart, tNoPart, tCB, tCall, fBM, fBM0, tBreak, tCont,
  fAdd, fSub, fMul, fDiv, fMod, fNeg, fLt, fLe, fGt, fGe, fIx, fSl, fLen, fInt, fStr, fAbs, fMax, fMin, fOrd, fIsN, fNotN, fIsi, fListOf, isLst, isStr, isDct, fAppend, fS1, fIAdd, fISub, fSet, tyOf, fEq, scal, fIn, iRng1, iRng2, iList, iTup, iStr, gSub,
  List.getElem?_cons_zero, List.getElem?_cons_succ, List.set_cons_zero, List.set_cons_succ, upd_same,
  V.int.injEq, V.str.injEq, V.bl.injEq, V.ref.injEq, Option.some.injEq, List.cons.injEq, exists_eq_left', exists_eq_left, exists_and_left, ex2, and_true, true_and, decide_eq_true_eq, Bool.not_eq_true', decide_eq_false_iff_not, Bool.false_eq_true, Bool.true_eq_false, Int.zero_add, Int.toNat_natCast, if_true, if_false, ite_true, ite_false, reduceIte, Int.reduceLT, Int.reduceLE, Int.reduceNeg, Int.reduceAdd, Nat.reduceLT, Nat.reduceLeDiff, Bool.not_true, Bool.not_false])
local macro_rules | `(tactic| walk_at "fx0") => `(tactic| dsimp only [cxOf, Cx.nox, Cx.wish])
local macro_rules | `(tactic| walk_at "mul") => `(tactic| first | exact mul_left (by decide) (by decide) | exact mul_right (by decide) (by decide) | exact mul_left (by omega) (by omega) | exact mul_right (by omega) (by omega))

def topS (i : Nat) : Stmt := PySem.Challenge.pw_livequill_k12_places_and_changes.main.body.getD i (.Pass ⟨0, 0, 0, 0⟩)
abbrev s_place_of : Stmt := topS 1
theorem sc_place_of : FnScope ["text", "offset", "before"] ["text", "offset"] (defScope s_place_of) := ⟨rfl, rfl, rfl, by decide +kernel, rfl, by decide +kernel, by decide +kernel⟩
abbrev s_changed : Stmt := topS 2
theorem sc_changed : FnScope ["text", "start", "stop", "new"] ["text", "start", "stop", "new"] (defScope s_changed) := ⟨rfl, rfl, rfl, by decide +kernel, rfl, by decide +kernel, by decide +kernel⟩
abbrev s_law_rows : Stmt := topS 4
theorem sc_law_rows : FnScope ["script", "count", "rows", "k", "cell"] ["script", "count"] (defScope s_law_rows) := ⟨rfl, rfl, rfl, by decide +kernel, rfl, by decide +kernel, by decide +kernel⟩
abbrev s_law_drawn : Stmt := topS 5
theorem sc_law_drawn : FnScope ["row", "most", "chars", "text", "count", "k"] ["row", "most"] (defScope s_law_drawn) := ⟨rfl, rfl, rfl, by decide +kernel, rfl, by decide +kernel, by decide +kernel⟩
abbrev s_law : Stmt := topS 6
theorem sc_law : FnScope ["script", "rows", "text", "line", "column", "offset", "place", "k", "start", "stop", "new", "told"] ["script"] (defScope s_law) := ⟨rfl, rfl, rfl, by decide +kernel, rfl, by decide +kernel, by decide +kernel⟩
--!none range len int isinstance tuple
structure Txt (K : PySem.W.Frag) (mg : Str → Option Value) : Prop where
  no_int : mg "int" = none
  no_isinstance : mg "isinstance" = none
  no_len : mg "len" = none
  no_range : mg "range" = none
  no_tuple : mg "tuple" = none
section
variable {P : Program} {w : World} {K : PySem.W.Frag} {mg : Str → Option Value} {base : Heap}
def spPlace : Sp := fun vs H Q _ => match vs with
  | [.str z, .int o] => (0 ≤ o ∧ o ≤ z.length ∧ z.length ≤ 1000) ∧ ∀ p H1, H p = none → Same H H1 → H1 p = some (.tup [.int (line ((Fx.L z).take o.toNat)), .int (col ((Fx.L z).take o.toNat))]) → Q (.ref p) H1
  | _ => False
theorem ok_place (A : At K mg "place_of" "place_of" s_place_of ["text", "offset"]) (T : Txt K mg) : Has P w K mg base CX0 "place_of" 1 ["text", "offset"] spPlace := by
  have Sc := sc_place_of
  refine has_of A Sc (fun vs H Q E h => ?_) (fun cdv f A outer s H vs Q E hr h => ?_)
  · unfold spPlace at h; split at h; rfl; cases h
  · unfold spPlace at h
    split at h
    · rename_i z o
      obtain ⟨⟨h0, h1, h2⟩, k⟩ := h
      refine ⟨_, (pss_cons (ps_set (i := 2) Sc.nd rfl (.inl rfl) (pe_slice sl_fx (fe_var 0) po_none (po_some (fe_var 1))))
      (pss_one (ps_ret (fe_tup (pa_cons (pe_op op_fAdd (fe_bm PySem.F.plainAttrs_str PySem.F.slot_str_count PySem.F.type_str_count isStr_ty mt_fCount (fe_var 2) (pa_cons pe_str pa_nil)) pe_int) (pa_cons (pe_op op_fSub (fe_var 1) (fe_bm PySem.F.plainAttrs_str PySem.F.slot_str_rfind PySem.F.type_str_rfind isStr_ty mt_fRfind (fe_var 2) (pa_cons pe_str pa_nil))) pa_nil)))))), ?_⟩
      walk_at "fx0"
      walk_at "fx"
      have e : cutS z none (some o) = S ((Fx.L z).take o.toNat) := by
        have := cut_take (Fx.L z) h0 (by rw [L_len]; exact h1)
        rw [S_L] at this
        exact this
      have e2 : Str.ofString "\n" = ⟨#[10]⟩ := by decide +kernel
      refine ⟨len_line (by omega), fun p H1 hp sm eo => ?_⟩
      rw [e, e2] at eo
      have e3 : ((Fx.L z).take o.toNat).length = o.toNat := by rw [List.length_take, L_len]; omega
      have e4 : Txt.count (S ((Fx.L z).take o.toNat)) ⟨#[10]⟩ + 1 = line ((Fx.L z).take o.toNat) := by
        rw [count_eq]
        rfl
      have e5 : o - Txt.rfind (S ((Fx.L z).take o.toNat)) ⟨#[10]⟩ = col ((Fx.L z).take o.toNat) := by
        unfold col
        rw [e3, show ((o.toNat : Nat) : Int) = o by omega]
      rw [e4, e5] at eo
      exact k p H1 hp sm eo
    · cases h
def spChanged : Sp := fun vs H Q _ => match vs with
  | [.str z, .int a, .int b, .str n] => ((0 ≤ a ∧ a ≤ b) ∧ b ≤ z.length ∧ z.length ≤ 1000 ∧ n.length ≤ 1000) ∧ Q (.str (S ((Fx.L z).take a.toNat ++ Fx.L n ++ (Fx.L z).drop b.toNat))) H
  | _ => False
theorem ok_changed (A : At K mg "changed" "changed" s_changed ["text", "start", "stop", "new"]) (T : Txt K mg) : Has P w K mg base CX0 "changed" 1 ["text", "start", "stop", "new"] spChanged := by
  have Sc := sc_changed
  refine has_of A Sc (fun vs H Q E h => ?_) (fun cdv f A outer s H vs Q E hr h => ?_)
  · unfold spChanged at h; split at h; rfl; cases h
  · unfold spChanged at h
    split at h
    · rename_i z a b n
      obtain ⟨⟨⟨h0, h1⟩, h2, h3, h4⟩, k⟩ := h
      refine ⟨_, (pss_one (ps_ret (pe_op op_fAdd (pe_op op_fAdd (pe_slice sl_fx (fe_var 0) po_none (po_some (fe_var 1))) (fe_var 3)) (pe_slice sl_fx (fe_var 0) (po_some (fe_var 2)) po_none)))), ?_⟩
      walk_at "fx0"
      walk_at "fx"
      have e1 : cutS z none (some a) = Fx.S ((Fx.L z).take a.toNat) := by
        have := cut_take (Fx.L z) h0 (by rw [L_len]; omega)
        rw [S_L] at this
        exact this
      have e2 : cutS z (some b) none = Fx.S ((Fx.L z).drop b.toNat) := by
        have := cut_drop (Fx.L z) (o := b) (by omega) (by rw [L_len]; exact h2)
        rw [S_L] at this
        exact this
      have l1 : (Fx.S ((Fx.L z).take a.toNat)).length ≤ z.length := by rw [S_len, List.length_take, L_len]; omega
      have l2 : (Fx.S ((Fx.L z).drop b.toNat)).length ≤ z.length := by rw [S_len, List.length_drop, L_len]; omega
      rw [e1, e2]
      have e3 : Fx.S ((Fx.L z).take a.toNat) ++ n = Fx.S ((Fx.L z).take a.toNat ++ Fx.L n) := by
        conv => lhs; rw [← S_L n]
        rw [S_app]
      rw [e3]
      refine ⟨len_line (by omega), len_line (by omega), len_line (by omega), len_line ?_, ?_⟩
      · rw [S_len, List.length_append, List.length_take, L_len, L_len]; omega
      · rw [S_app]
        exact k
    · cases h
def spRows (K : PySem.W.Frag) : Sp := fun vs H Q _ => match vs with
  | [.ref a, .int c] => ∃ ns : List Int, SqL K H a (ns.map V.int) ∧ ns.length ≤ 63 ∧ 0 ≤ c ∧ c ≤ 100 ∧ ∀ p H' (rs : List Int), Same H H' → H p = none → H' p = some (.lst (rs.map V.int)) → rs.length = c.toNat → Q (.ref p) H'
  | _ => False
theorem ok_rows (A : At K mg "_law_rows" "_law_rows" s_law_rows ["script", "count"]) (T : Txt K mg) : Has P w K mg base CX0 "_law_rows" 1 ["script", "count"] (spRows K) := by
  have Sc := sc_law_rows
  refine has_of A Sc (fun vs H Q E h => ?_) (fun cdv f A outer s H vs Q E hr h => ?_)
  · unfold spRows at h; split at h; rfl; cases h
  · unfold spRows at h
    split at h
    · rename_i a c
      obtain ⟨ns, hS, hn, h0, h1, k⟩ := h
      refine ⟨_, (pss_cons (ps_set (i := 2) Sc.nd rfl (.inl rfl) (fe_lst pa_nil))
      (pss_cons (ps_for PassesOwn.never rfl (pi_range1 (by rfl) T.no_range (pa_cons (fe_var 1) pa_nil)) (pg_name (i := 3) Sc.nd rfl (.inl rfl)) (pss_cons (ps_set (i := 4) Sc.nd rfl (.inl rfl) pe_int)
      (pss_cons (ps_if (pt_cmpR op_fGt (pe_callB call_fLen (by rfl) T.no_len (by decide +kernel) (pa_cons (fe_var 0) pa_nil)) pe_int (nomark _)) (pss_one (ps_set (i := 4) Sc.nd rfl (.inl rfl) (pe_callTy call_fInt (by rfl) T.no_int (by decide +kernel) (pa_cons (pe_ix ix_fx (fe_var 0) (pe_op op_fMod (pe_callTy call_fInt (by rfl) T.no_int (by decide +kernel) (pa_cons (fe_var 3) pa_nil)) (pe_callB call_fLen (by rfl) T.no_len (by decide +kernel) (pa_cons (fe_var 0) pa_nil))) (fun _ _ => rfl)) pa_nil)))) pss_nil)
      (pss_cons (ps_if (pt_cmpR op_fLt (fe_var 4) pe_int (nomark _)) (pss_one (ps_set (i := 4) Sc.nd rfl (.inl rfl) (pe_op op_fSub pe_int (pe_op op_fMul pe_int (fe_var 4))))) pss_nil)
      (pss_cons (ps_if (PW.pt (pw_or (pt_cmpR op_fGe (fe_var 3) (pe_callB call_fLen (by rfl) T.no_len (by decide +kernel) (pa_cons (fe_var 0) pa_nil)) (nomark _)) (pw_or1 (pt_cmpR op_fLt (fe_var 4) pe_int (nomark _))))) (pss_cons (ps_set (i := 4) Sc.nd rfl (.inl rfl) (pe_op op_fMod (pe_callTy call_fInt (by rfl) T.no_int (by decide +kernel) (pa_cons (pe_op op_fAdd (pe_op op_fMul (pe_op op_fAdd (pe_op op_fAdd (fe_var 4) (pe_op op_fMul pe_int (fe_var 3))) pe_int) pe_int) (pe_op op_fMul (pe_op op_fMul (fe_var 3) (fe_var 3)) pe_int)) pa_nil)) pe_int))
      (pss_one (ps_set (i := 4) Sc.nd rfl (.inl rfl) (pe_op op_fMod (pe_callTy call_fInt (by rfl) T.no_int (by decide +kernel) (pa_cons (pe_op op_fMul (pe_op op_fAdd (pe_op op_fAdd (fe_var 4) (pe_op op_fMul pe_int (fe_var 3))) pe_int) pe_int) pa_nil)) pe_int)))) pss_nil)
      (pss_one (ps_expr (fe_bm PySem.F.plainAttrs_list PySem.F.slot_list_append PySem.F.type_list_append isLst_ty mt_fAppend (fe_var 2) (pa_cons (fe_var 4) pa_nil)))))))))
      (pss_one (ps_ret (fe_var 2))))), ?_⟩
      walk_at "fx0"
      walk_at "fx"
      intro o H0 no sm0 eo0
      refine for_ ?_
      walk_at "fx"
      refine ⟨by omega, by omega, loop_range (fun i σ H' => ∃ (rs : List Int) (v3 v4 : Option V), σ = [some (.ref a), some (.int c), some (.ref o), v3, v4] ∧ Same H H' ∧ H' o = some (.lst (rs.map V.int)) ∧ rs.length = i)
        ⟨[], none, none, rfl, sm0, eo0, rfl⟩ ?_ ?_⟩
      · rintro i σ H' hi ⟨rs, v3, v4, rfl, sm, eo, hl⟩
        have hS' := sm.seq hS
        walk_at "fx"
        refine cut_ fun N hN => ifs_ ?_
        walk_at "fx"
        refine ⟨_, .inl hS', ?_⟩
        rw [List.length_map]
        have key : ∀ x : Int, N [some (.ref a), some (.int c), some (.ref o), some (.int (i : Int)), some (.int x)] H' := fun x => hN _ _ ?_
        · split
          · refine ⟨_, .inl hS', by rw [List.length_map]; omega, _, .inl hS', ?_⟩
            rw [List.length_map]
            obtain ⟨z, ez⟩ := at_ints (ns := ns) (i := (i : Int) % (ns.length : Int)) (Int.emod_nonneg _ (by omega)) (Int.emod_lt_of_pos _ (by omega))
            exact ⟨_, ez, key z⟩
          · exact key 0
        · clear hN N
          walk_at "fx"
          refine cut_ fun N hN => ifs_ ?_
          walk_at "fx"
          have key : ∀ x : Int, N [some (.ref a), some (.int c), some (.ref o), some (.int (i : Int)), some (.int x)] H' := fun x => hN _ _ ?_
          · split
            · exact ⟨mul_left (by decide) (by decide), key _⟩
            · exact key _
          · clear hN N
            walk_at "fx"
            refine cut_ fun N hN => ifs_ ?_
            walk_at "fx"
            have key : ∀ x : Int, N [some (.ref a), some (.int c), some (.ref o), some (.int (i : Int)), some (.int x)] H' := fun x => hN _ _ ?_
            · refine ⟨_, .inl hS', ?_⟩
              have q : ∀ y, IntMulOk (i : Int) (i : Int) ∧ y → y := fun _ h => h.2
              have m1 : IntMulOk (i : Int) (i : Int) := by walk_at "mul"
              have m2 : IntMulOk (((x + 131 * (i : Int) + 7) * 48271 + (i : Int) * (i : Int) * 69621) % 1000000007 + 17 * (i : Int) + 3) 2862933555777941757 := by walk_at "mul"
              split
              · exact ⟨by walk_at "mul", by walk_at "mul", m1, by walk_at "mul", by walk_at "mul", m2, key _⟩
              · split
                · exact ⟨by walk_at "mul", by walk_at "mul", m1, by walk_at "mul", by walk_at "mul", m2, key _⟩
                · exact key _
            · clear hN N
              walk_at "fx"
              simp only [eo]
              refine ⟨trivial, ?_, same_mut sm no, rs ++ [x], ?_, ?_⟩
              · rw [List.length_map]; exact len_line' (by omega)
              · rw [List.map_append]; rfl
              · rw [List.length_append, hl]; rfl
      · rintro σ H' ⟨rs, v3, v4, rfl, sm, eo, hl⟩
        walk_at "fx"
        exact k o H' rs sm no eo hl
    · cases h
def spDrawn : Sp := fun vs H Q _ => match vs with
  | [.int row, .int most] => (0 ≤ most ∧ most ≤ 1000) ∧ ∀ H' (z : Str), Same H H' → (z.length : Int) ≤ most → Q (.str z) H'
  | _ => False
theorem ok_drawn (A : At K mg "_law_drawn" "_law_drawn" s_law_drawn ["row", "most"]) (T : Txt K mg) : Has P w K mg base CX0 "_law_drawn" 1 ["row", "most"] spDrawn := by
  have Sc := sc_law_drawn
  refine has_of A Sc (fun vs H Q E h => ?_) (fun cdv f A outer s H vs Q E hr h => ?_)
  · unfold spDrawn at h; split at h; rfl; cases h
  · unfold spDrawn at h
    split at h
    · rename_i row most
      obtain ⟨⟨h0, h1⟩, k⟩ := h
      refine ⟨_, (pss_cons (ps_set (i := 2) Sc.nd rfl (.inl rfl) (fe_lst (pa_cons pe_str (pa_cons pe_str (pa_cons pe_str (pa_cons pe_str (pa_cons pe_str (pa_cons pe_str (pa_cons pe_str pa_nil)))))))))
      (pss_cons (ps_set (i := 3) Sc.nd rfl (.inl rfl) pe_str)
      (pss_cons (ps_set (i := 4) Sc.nd rfl (.inl rfl) (pe_op op_fMod (pe_callTy call_fInt (by rfl) T.no_int (by decide +kernel) (pa_cons (fe_var 0) pa_nil)) (pe_op op_fAdd (fe_var 1) pe_int)))
      (pss_cons (ps_for PassesOwn.never rfl (pi_range1 (by rfl) T.no_range (pa_cons (fe_var 4) pa_nil)) (pg_name (i := 5) Sc.nd rfl (.inl rfl)) (pss_cons (ps_set (i := 3) Sc.nd rfl (.inl rfl) (pe_op op_fAdd (fe_var 3) (pe_ix ix_fx (fe_var 2) (pe_op op_fMod (pe_callTy call_fInt (by rfl) T.no_int (by decide +kernel) (pa_cons (pe_op op_fAdd (pe_op op_fDiv (fe_var 0) pe_int) (pe_op op_fMul (fe_var 5) (fe_var 5))) pa_nil)) pe_int) (fun _ _ => rfl))))
      (pss_one (ps_set (i := 0) Sc.nd rfl (.inl rfl) (pe_op op_fAdd (pe_op op_fDiv (fe_var 0) pe_int) (pe_op op_fMul pe_int (fe_var 5)))))))
      (pss_one (ps_ret (fe_var 3))))))), ?_⟩
      walk_at "fx0"
      walk_at "fx"
      intro o H1 no sm ho
      refine ⟨by omega, ?_⟩
      refine for_ ?_
      walk_at "fx"
      have b0 := Int.emod_nonneg row (show most + 1 ≠ 0 by omega)
      have b1 := Int.emod_lt_of_pos row (show 0 < most + 1 by omega)
      generalize hg : row % (most + 1) = n at b0 b1
      refine ⟨by omega, by omega, loop_range (fun i σ H' => H' = H1 ∧ ∃ (r : Int) (z : Str) (v5 : Option V), σ = [some (.int r), some (.int most), some (.ref o), some (.str z), some (.int n), v5] ∧ z.length = i)
        ⟨rfl, row, "", none, rfl, by decide +kernel⟩ ?_ ?_⟩
      · rintro i σ H' hi ⟨rfl, r, z, v5, rfl, hl⟩
        walk_at "fx"
        have m1 : IntMulOk (i : Int) (i : Int) := by walk_at "mul"
        obtain ⟨v, hv, ev⟩ := at_strs (ns := ["a", "\n", " ", "\n", "x", "{", "}"]) (i := (r / 61 + (i : Int) * (i : Int)) % 7) (Int.emod_nonneg _ (by decide)) (Int.emod_lt_of_pos _ (by decide))
        have hv1 : v.length = 1 := by
          have : ∀ v ∈ (["a", "\n", " ", "\n", "x", "{", "}"] : List Str), v.length = 1 := by decide +kernel
          exact this v hv
        refine ⟨small_div (by decide) (by decide), m1, _, rl_l ho, _, ev, ?_⟩
        walk_at "fx"
        refine ⟨len_line (by omega), small_div (by decide) (by decide), by walk_at "mul", _, z ++ v, _, ⟨rfl, rfl, rfl⟩, ?_⟩
        have : (z ++ v).length = z.length + v.length := by
          show (z.cps ++ v.cps).size = _
          rw [Array.size_append]; rfl
        omega
      · rintro σ H' ⟨rfl, r, z, v5, rfl, hl⟩
        walk_at "fx"
        exact k H' z sm (by omega)
    · cases h
def spLaw (K : PySem.W.Frag) : Sp := fun vs H Q _ => ∃ (a : Addr) (ns : List Int), vs = [.ref a] ∧ SqL K H a (ns.map V.int) ∧ ns.length ≤ 63 ∧ (∀ z ∈ ns, Builtin.Int.intBits z ≤ 1048576) ∧ ∀ H', Q (.bl true) H'
theorem law_fn {fa : Addr} {fd : FuncData} (F : Fun K "law" "law" s_law fa fd) (T : Txt K mg) (a_place : At K mg "place_of" "place_of" s_place_of ["text", "offset"]) (a_changed : At K mg "changed" "changed" s_changed ["text", "start", "stop", "new"])
    (a_rows : At K mg "_law_rows" "_law_rows" s_law_rows ["script", "count"]) (a_drawn : At K mg "_law_drawn" "_law_drawn" s_law_drawn ["row", "most"]) : FnOk P w K mg base CX0 2 fa fd ["script"] (spLaw K) := by
  have Sc := sc_law
  have H_place_of := ok_place (P := P) (w := w) (base := base) a_place T
  have H_changed := ok_changed (P := P) (w := w) (base := base) a_changed T
  have H_law_rows := ok_rows (P := P) (w := w) (base := base) a_rows T
  have H_law_drawn := ok_drawn (P := P) (w := w) (base := base) a_drawn T
  refine F.ok Sc (fun vs H Q E h => ?_) (fun cdv A outer s H vs Q E hr h => ?_)
  · obtain ⟨a, ns, rfl, _⟩ := h; rfl
  · obtain ⟨a, ns, rfl, hS, hn, hb, k⟩ := h
    refine ⟨_, (pss_cons (ps_set (i := 1) Sc.nd rfl (.inl rfl) (fe_call H_law_rows (hr.mono (by decide)) (by rfl) pass0 (pa_cons (fe_var 0) (pa_cons pe_int pa_nil))))
      (pss_cons (ps_set (i := 2) Sc.nd rfl (.inl rfl) (fe_call H_law_drawn (hr.mono (by decide)) (by rfl) pass0 (pa_cons (pe_ix ix_fx (fe_var 1) pe_int (fun _ _ => rfl)) (pa_cons pe_int pa_nil))))
      (pss_cons (ps_set (i := 3) Sc.nd rfl (.inl rfl) pe_int)
      (pss_cons (ps_set (i := 4) Sc.nd rfl (.inl rfl) pe_int)
      (pss_cons (ps_for PassesOwn.never rfl (pi_range1 (by rfl) T.no_range (pa_cons (pe_op op_fAdd (pe_callB call_fLen (by rfl) T.no_len (by decide +kernel) (pa_cons (fe_var 2) pa_nil)) pe_int) pa_nil)) (pg_name (i := 5) Sc.nd rfl (.inl rfl)) (pss_cons (ps_set (i := 6) Sc.nd rfl (.inl rfl) (fe_call H_place_of (hr.mono (by decide)) (by rfl) pass0 (pa_cons (fe_var 2) (pa_cons (fe_var 5) pa_nil))))
      (pss_cons (ps_if (PW.pt (pw_or (pt_not (pt_val (pe_callB call_fIsi (by rfl) T.no_isinstance (by decide +kernel) (pa_cons (fe_var 6) (pa_cons (fe_ty (n := "tuple") (by rfl) T.no_tuple (by decide +kernel)) pa_nil))))) (pw_or1 (pt_cmpR (op_fNe hr.units) (fe_var 6) (fe_tup (pa_cons (fe_var 3) (pa_cons (fe_var 4) pa_nil))) (nomark _))))) (pss_one (ps_ret pe_bl)) pss_nil)
      (pss_cons (ps_set (i := 4) Sc.nd rfl (.inl rfl) (pe_op op_fAdd (fe_var 4) pe_int))
      (pss_one (ps_if (PW.pt (pw_and (pt_cmpR op_fLt (fe_var 5) (pe_callB call_fLen (by rfl) T.no_len (by decide +kernel) (pa_cons (fe_var 2) pa_nil)) (nomark _)) (pw_and1 (pt_cmpR (op_fEq hr.units) (pe_ix ix_fx (fe_var 2) (fe_var 5) (fun _ _ => rfl)) pe_str (nomark _))))) (pss_cons (ps_set (i := 3) Sc.nd rfl (.inl rfl) (pe_op op_fAdd (fe_var 3) pe_int))
      (pss_one (ps_set (i := 4) Sc.nd rfl (.inl rfl) pe_int))) pss_nil))))))
      (pss_cons (ps_for PassesOwn.never rfl (pi_range2 (by rfl) T.no_range (pa_cons pe_int (pa_cons pe_int pa_nil))) (pg_name (i := 7) Sc.nd rfl (.inl rfl)) (pss_cons (ps_set (i := 8) Sc.nd rfl (.inl rfl) (pe_op op_fMod (pe_callTy call_fInt (by rfl) T.no_int (by decide +kernel) (pa_cons (pe_ix ix_fx (fe_var 1) (fe_var 7) (fun _ _ => rfl)) pa_nil)) (pe_op op_fAdd (pe_callB call_fLen (by rfl) T.no_len (by decide +kernel) (pa_cons (fe_var 2) pa_nil)) pe_int)))
      (pss_cons (ps_set (i := 9) Sc.nd rfl (.inl rfl) (pe_op op_fAdd (fe_var 8) (pe_op op_fMod (pe_callTy call_fInt (by rfl) T.no_int (by decide +kernel) (pa_cons (pe_op op_fDiv (pe_ix ix_fx (fe_var 1) (fe_var 7) (fun _ _ => rfl)) pe_int) pa_nil)) (pe_op op_fSub (pe_op op_fAdd (pe_callB call_fLen (by rfl) T.no_len (by decide +kernel) (pa_cons (fe_var 2) pa_nil)) pe_int) (fe_var 8)))))
      (pss_cons (ps_set (i := 10) Sc.nd rfl (.inl rfl) (fe_call H_law_drawn (hr.mono (by decide)) (by rfl) pass0 (pa_cons (pe_op op_fDiv (pe_ix ix_fx (fe_var 1) (fe_var 7) (fun _ _ => rfl)) pe_int) (pa_cons pe_int pa_nil))))
      (pss_cons (ps_set (i := 11) Sc.nd rfl (.inl rfl) (fe_call H_changed (hr.mono (by decide)) (by rfl) pass0 (pa_cons (fe_var 2) (pa_cons (fe_var 8) (pa_cons (fe_var 9) (pa_cons (fe_var 10) pa_nil))))))
      (pss_one (ps_if (PW.pt (pw_or (pt_cmpR (op_fNe hr.units) (pe_slice sl_fx (fe_var 11) po_none (po_some (fe_var 8))) (pe_slice sl_fx (fe_var 2) po_none (po_some (fe_var 8))) (nomark _)) (pw_or (pt_cmpR (op_fNe hr.units) (pe_slice sl_fx (fe_var 11) (po_some (fe_var 8)) (po_some (pe_op op_fAdd (fe_var 8) (pe_callB call_fLen (by rfl) T.no_len (by decide +kernel) (pa_cons (fe_var 10) pa_nil))))) (fe_var 10) (nomark _)) (pw_or1 (pt_cmpR (op_fNe hr.units) (pe_slice sl_fx (fe_var 11) (po_some (pe_op op_fAdd (fe_var 8) (pe_callB call_fLen (by rfl) T.no_len (by decide +kernel) (pa_cons (fe_var 10) pa_nil)))) po_none) (pe_slice sl_fx (fe_var 2) (po_some (fe_var 9)) po_none) (nomark _)))))) (pss_one (ps_ret pe_bl)) pss_nil)))))))
      (pss_one (ps_ret pe_bl)))))))), ?_⟩
    walk_at "fx0"
    walk_at "fx"
    refine ⟨ns, hS, hn, by decide, by decide, fun p H1 rs sm hp eo hl => ?_⟩
    walk_at "fx"
    have hl6 : rs.length = 6 := hl
    obtain ⟨r0, e0⟩ := at_ints (ns := rs) (i := 0) (by omega) (by omega)
    refine ⟨_, rl_l eo, _, e0, ⟨by decide, by decide⟩, fun H2 z sm2 hz => ?_⟩
    have eo2 := sm2 _ _ eo
    have zl : z.length ≤ 60 := by omega
    refine for_ ?_
    walk_at "fx"
    refine ⟨len_line (by omega), by omega, by omega, ?_⟩
    have en : ((z.length : Int) + 1).toNat = z.length + 1 := by omega
    rw [en]
    refine loop_range (fun i σ H' => Same H2 H' ∧ i ≤ z.length + 1 ∧ ∃ (v5 v6 : Option V) (c : Int), σ = [some (.ref a), some (.ref p), some (.str z), some (.int (line ((Fx.L z).take i))), some (.int c), v5, v6, none, none, none, none, none] ∧ (i ≤ z.length → c = col ((Fx.L z).take i)))
      ⟨Same.refl _, by omega, none, none, 1, rfl, fun _ => col_nil.symm⟩ ?_ ?_
    · rintro i σ H' hi ⟨sm3, hi2, v5, v6, c, rfl, hc⟩
      have hc := hc (by omega)
      subst hc
      walk_at "fx"
      refine ⟨⟨by omega, by omega, by omega⟩, fun q H4 nq sm4 eq => ?_⟩
      rw [Int.toNat_natCast] at eq
      walk_at "fx"
      refine cut_ fun N hN => ifs_ ?_
      walk_at "fx"
      simp only [eq]
      walk_at "fx"
      refine ⟨true, by decide +kernel, ?_⟩
      walk_at "fx"
      intro q5 H5 nq5 sm5 eq5
      refine ⟨.tuple [.int _, .int _], .tup (SqT.of (sm5 _ _ eq)) (.cons (.int _) (.cons (.int _) .nil)), .tuple [.int _, .int _], .tup (SqT.of eq5) (.cons (.int _) (.cons (.int _) .nil)), rfl, rfl, ?_⟩
      have et : PyData.eqv (.tuple [.int (line (List.take i (Fx.L z))), .int (col (List.take i (Fx.L z)))]) (.tuple [.int (line (List.take i (Fx.L z))), .int (col (List.take i (Fx.L z)))]) = true := by
        simp [PyData.eqv, PyData.eqvAll]
      rw [et, if_neg (by decide)]
      have sm6 : Same H2 H5 := (sm3.trans sm4).trans sm5
      refine hN _ _ ?_
      clear hN N
      walk_at "fx"
      refine ifs_ ?_
      walk_at "fx"
      refine ⟨len_line (by omega), ?_⟩
      by_cases hlt : i < z.length
      · rw [if_pos (by omega)]
        refine ⟨len_line (by omega), ?_⟩
        have hlt' : i < (Fx.L z).length := by rw [L_len]; exact hlt
        have ez : (Fx.L z)[i]? = some (Fx.L z)[i] := List.getElem?_eq_getElem hlt'
        have et2 : (Fx.L z).take (i + 1) = (Fx.L z).take i ++ [(Fx.L z)[i]] := by
          rw [List.take_add_one, ez]; rfl
        refine ⟨(Fx.L z)[i], atI_nat (xs := Fx.L z) ez, ?_⟩
        have e2 : Str.ofString "\n" = ⟨#[10]⟩ := by decide +kernel
        rw [e2]
        by_cases e10 : (Fx.L z)[i] = 10
        · rw [if_pos (by rw [e10])]
          refine ⟨sm6, by omega, _, _, _, ⟨?_, rfl, rfl, rfl⟩, fun _ => ?_⟩
          · rw [et2, line_snoc, if_pos e10]
          · rw [et2, col_snoc, if_pos e10]
        · rw [if_neg (fun h => e10 (by have := S_inj (a := [(Fx.L z)[i]]) (b := [10]) h; exact (List.cons.inj this).1))]
          refine ⟨sm6, by omega, _, _, _, ⟨?_, rfl, rfl, rfl⟩, fun _ => ?_⟩
          · rw [et2, line_snoc, if_neg e10]
          · rw [et2, col_snoc, if_neg e10]
      · rw [if_neg (by omega)]
        refine ⟨sm6, by omega, _, _, _, ⟨?_, rfl, rfl, rfl⟩, fun h => absurd h (by omega)⟩
        rw [List.take_of_length_le (by rw [L_len]; omega), List.take_of_length_le (by rw [L_len]; omega)]
    · rintro σ H' ⟨sm3, hi2, v5, v6, c, rfl, hc⟩
      generalize line ((Fx.L z).take (z.length + 1)) = ln
      clear hc
      walk_at "fx"
      refine for_ ?_
      walk_at "fx"
      refine ⟨⟨by decide, by decide, by decide, by decide⟩, ?_⟩
      refine loop_range (fun i σ H' => Same H2 H' ∧ ∃ (v5 v6 v7 v8 v9 v10 v11 : Option V), σ = [some (.ref a), some (.ref p), some (.str z), some (.int ln), some (.int c), v5, v6, v7, v8, v9, v10, v11])
        ⟨sm3, v5, v6, none, none, none, none, none, rfl⟩ ?_ ?_
      · clear sm3
        rintro i σ H' hi ⟨sm3, v5, v6, v7, v8, v9, v10, v11, rfl⟩
        have hi' : i < 3 := hi
        have eo3 := sm3 _ _ eo2
        walk_at "fx"
        obtain ⟨r1, e1⟩ := at_ints (ns := rs) (i := 1 + (i : Int)) (by omega) (by omega)
        refine ⟨_, rl_l eo3, _, e1, ?_⟩
        walk_at "fx"
        refine ⟨len_line (by omega), by omega, _, rl_l eo3, _, e1, ?_⟩
        walk_at "fx"
        have b0 := Int.emod_nonneg r1 (show (z.length : Int) + 1 ≠ 0 by omega)
        have b1 := Int.emod_lt_of_pos r1 (show (0 : Int) < z.length + 1 by omega)
        generalize r1 % ((z.length : Int) + 1) = st at b0 b1
        refine ⟨small_div (by decide) (by decide), len_line (by omega), by omega, _, rl_l eo3, _, e1, ?_⟩
        walk_at "fx"
        have c0 := Int.emod_nonneg (r1 / 100) (show (z.length : Int) + 1 - st ≠ 0 by omega)
        have c1 := Int.emod_lt_of_pos (r1 / 100) (show (0 : Int) < z.length + 1 - st by omega)
        generalize r1 / 100 % ((z.length : Int) + 1 - st) = d at c0 c1
        refine ⟨small_div (by decide) (by decide), ⟨by decide, by decide⟩, fun H4 n sm4 hn => ?_⟩
        walk_at "fx"
        refine ⟨⟨⟨by omega, by omega⟩, by omega, by omega, by omega⟩, ?_⟩
        walk_at "fx"
        refine ifs_ ?_
        walk_at "fx"
        have q0 : (Fx.L n).length ≤ 9 := by rw [L_len]; omega
        have q1 : (Fx.L z).length = z.length := L_len z
        have en : (Fx.L n).length = n.length := L_len n
        obtain ⟨l, rfl⟩ : ∃ l, z = Fx.S l := ⟨_, (S_L z).symm⟩
        obtain ⟨m, rfl⟩ : ∃ m, n = Fx.S m := ⟨_, (S_L n).symm⟩
        simp only [S_len, L_S] at *
        obtain ⟨a1, rfl⟩ := Int.eq_ofNat_of_zero_le b0
        obtain ⟨d1, rfl⟩ := Int.eq_ofNat_of_zero_le c0
        have g1 : ((a1 : Int) + (d1 : Int)).toNat = a1 + d1 := by omega
        rw [g1, Int.toNat_natCast]
        have ll : (l.take a1 ++ m ++ l.drop (a1 + d1)).length ≤ 100 := by
          rw [List.length_append, List.length_append, List.length_take, List.length_drop]; omega
        have f1 : cutS (Fx.S (l.take a1 ++ m ++ l.drop (a1 + d1))) none (some (a1 : Int)) = Fx.S (l.take a1) := by
          rw [cut_take _ (by omega) (by rw [List.length_append, List.length_append, List.length_take, List.length_drop]; omega), Int.toNat_natCast, List.append_assoc, List.take_append_of_le_length (by rw [List.length_take]; omega), List.take_take, Nat.min_self]
        have f2 : cutS (Fx.S l) none (some (a1 : Int)) = Fx.S (l.take a1) := by
          rw [cut_take _ (by omega) (by omega), Int.toNat_natCast]
        have f3 : cutS (Fx.S (l.take a1 ++ m ++ l.drop (a1 + d1))) (some (a1 : Int)) (some ((a1 : Int) + (m.length : Int))) = Fx.S m := by
          rw [cut_mid _ (by omega) (by omega) (by rw [List.length_append, List.length_append, List.length_take, List.length_drop]; omega), Int.toNat_natCast]
          have t1 : ((a1 : Int) + (m.length : Int)).toNat - a1 = m.length := by omega
          have t2 : (l.take a1).length = a1 := by rw [List.length_take]; omega
          rw [t1, List.append_assoc, List.drop_append_of_le_length (by omega), List.drop_eq_nil_of_le (by omega), List.nil_append, List.take_append_of_le_length (Nat.le_refl _), List.take_length]
        have f4 : cutS (Fx.S (l.take a1 ++ m ++ l.drop (a1 + d1))) (some ((a1 : Int) + (m.length : Int))) none = Fx.S (l.drop (a1 + d1)) := by
          rw [cut_drop _ (by omega) (by rw [List.length_append, List.length_append, List.length_take, List.length_drop]; omega)]
          have t1 : ((a1 : Int) + (m.length : Int)).toNat = (l.take a1 ++ m).length := by rw [List.length_append, List.length_take]; omega
          rw [t1, List.drop_left]
        have f5 : cutS (Fx.S l) (some ((a1 : Int) + (d1 : Int))) none = Fx.S (l.drop (a1 + d1)) := by
          rw [cut_drop _ (by omega) (by omega), g1]
        rw [f1, f2, f3, f4, f5]
        refine ⟨len_line (by omega), len_line (by omega), ?_⟩
        rw [if_neg (fun h => h rfl)]
        refine ⟨len_line (by omega), len_line (by omega), ?_⟩
        rw [if_neg (fun h => h rfl)]
        refine ⟨len_line (by omega), len_line (by omega), len_line (by omega), ?_⟩
        rw [if_neg (fun h => h rfl)]
        exact ⟨sm3.trans sm4, _, rfl⟩
      · rintro σ H' ⟨sm3, v5, v6, v7, v8, v9, v10, v11, rfl⟩
        walk_at "fx"
        exact k _
end
theorem all_mk {P : Program} {w : World} {K : PySem.W.Frag} {h : Heap} {mg : Str → Option Value} {fa : Addr} (X : K.In h) (G : h.Ns mainGlobals mg) (hfa : mg "law" = some (.ref fa))
    (f0 : FnFact K "place_of" "place_of" s_place_of) (f1 : FnFact K "changed" "changed" s_changed) (f2 : FnFact K "_law_rows" "_law_rows" s_law_rows) (f3 : FnFact K "_law_drawn" "_law_drawn" s_law_drawn) (f4 : FnFact K "law" "law" s_law)
    (z_int : PySem.W.nsIn K mainGlobals "int" = some none) (z_isinstance : PySem.W.nsIn K mainGlobals "isinstance" = some none) (z_len : PySem.W.nsIn K mainGlobals "len" = some none) (z_range : PySem.W.nsIn K mainGlobals "range" = some none) (z_tuple : PySem.W.nsIn K mainGlobals "tuple" = some none) :
    ∃ fd : FuncData, (∀ (s : Shared) (v : Value), BindsTo s fd ⟨[v], []⟩ [("script", v)]) ∧ ∀ base : Heap, K.In base → base.Ns mainGlobals mg → FnOk P w K mg base CX0 2 fa fd ["script"] (spLaw K) := by
  have T : Txt K mg := ⟨PySem.W.mg_none_of X G z_int, PySem.W.mg_none_of X G z_isinstance, PySem.W.mg_none_of X G z_len, PySem.W.mg_none_of X G z_range, PySem.W.mg_none_of X G z_tuple⟩
  have a0 : At K mg "place_of" "place_of" s_place_of ["text", "offset"] := At.of X G f0 fun _ _ _ _ _ _ us hl => match us, hl with | [_, _], _ => rfl
  have a1 : At K mg "changed" "changed" s_changed ["text", "start", "stop", "new"] := At.of X G f1 fun _ _ _ _ _ _ us hl => match us, hl with | [_, _, _, _], _ => rfl
  have a2 : At K mg "_law_rows" "_law_rows" s_law_rows ["script", "count"] := At.of X G f2 fun _ _ _ _ _ _ us hl => match us, hl with | [_, _], _ => rfl
  have a3 : At K mg "_law_drawn" "_law_drawn" s_law_drawn ["row", "most"] := At.of X G f3 fun _ _ _ _ _ _ us hl => match us, hl with | [_, _], _ => rfl
  obtain ⟨f, oc, od, an, sl, kV, dc, pm, cd, ct, a, l, c, k⟩ := f4.ex
  have e := hfa.symm.trans (PySem.W.mg_of X G a)
  cases e
  have F1 := fun_mk (st := s_law) l c k
  have al : At K mg "law" "law" s_law ["script"] := ⟨_, _, F1, F1.binds fun _ _ _ _ _ _ us hl => match us, hl with | [_], _ => rfl, PySem.W.mg_of X G a⟩
  refine ⟨PySem.W.fnOf "law" "law" (defArgs s_law) (defBody s_law) (defScope s_law) .none kV dc pm an cd ct, fun s v => .of_eq rfl, fun base _ _ => ?_⟩
  exact law_fn F1 T a0 a1 a2 a3
end My
open PySem PySem.W PyProof.Rows
set_option maxRecDepth 100000 in
set_option maxHeartbeats 0 in
theorem PySem.Challenge.cw_livequill_k12_places_and_changes_holds : PySem.Challenge.rw_livequill_k12_places_and_changes.Holds := by
  w_on; o_law; k_head; (case hw => w_witness2)
  k_fill
  refine L2.walk_ofB (l := PySem.Challenge.rw_livequill_k12_places_and_changes) (n := 63) (k := 2) (x := "script") (CX := fun _ => L2.CX0) (sp := fun w => My.spLaw _) rfl (by decide) rfl ⟨rfl, by decide, by decide⟩ (fun w h Y => PySem.W.kIn_of Y) ?F (fun _ _ a ns hl hb _ hS => ⟨a, ns, rfl, hS, hl, hb, fun _ => rfl⟩) (fun _ _ _ _ _ h => h)
  case F =>
    intro w mg fa h KX G hmg
    refine' My.all_mk KX G hmg (Fx.FnFact.of ?a0 ?l0 ?c0 ?k0) (Fx.FnFact.of ?a1 ?l1 ?c1 ?k1) (Fx.FnFact.of ?a2 ?l2 ?c2 ?k2) (Fx.FnFact.of ?a3 ?l3 ?c3 ?k3) (Fx.FnFact.of ?a4 ?l4 ?c4 ?k4) ?z_int ?z_isinstance ?z_len ?z_range ?z_tuple
    (case a0 => k_is); (case l0 => k_is); (case c0 => k_is); (case k0 => k_is)
    (case a1 => k_is); (case l1 => k_is); (case c1 => k_is); (case k1 => k_is)
    (case a2 => k_is); (case l2 => k_is); (case c2 => k_is); (case k2 => k_is)
    (case a3 => k_is); (case l3 => k_is); (case c3 => k_is); (case k3 => k_is)
    (case a4 => k_is); (case l4 => k_is); (case c4 => k_is); (case k4 => k_is)
    (case z_int => k_is); (case z_isinstance => k_is); (case z_len => k_is); (case z_range => k_is); (case z_tuple => k_is)
