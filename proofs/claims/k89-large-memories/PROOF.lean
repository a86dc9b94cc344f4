import PyProof.Rows.All
import Wide.All
import OpenK.AllK
import Wide.FinOn
import KE.KStateDown
import HandS.Head0
import HandS.Head1
import HandS.Head2
import HandS.HeadEnd
import HandS.HeadHook1
import HandS.HeadHook2
import PySem.Challenge.RW_gleanworld_k89_large_memories
import HandS.ForMost
import HandS.Exc
import HandS.TryOnly
import HandS.ExcOwn
import HandS.WordsExc
import HandS.More
import HandS.Defaults
import HandS.IsInst
import HandS.TupAny
import HandS.SortRule
import HandS.SortInts
import HandS.Zip
import HandS.WideBits
import HandS.Flow
import HandS.Style
import HandS.Conv
import HandS.Walk
import KE.GoesMore
import KE.GoesZip
set_option Elab.async false
set_option linter.all false
set_option maxRecDepth 100000
set_option maxHeartbeats 0

/-! Readings that fit whatever kinds of values come. -/
namespace U
open PySem PySem.Spec PyProof.Rows L2
section
variable {X : Cx}

/-- what is read at an address as a list, a tuple, a dict (tracked or locked) -/
def lstAt : Option HO → Option (List V)
  | some (.lst xs) => some xs
  | some (.frz _ (.lst xs)) => some xs
  | _ => none
def tupAt : Option HO → Option (List V)
  | some (.tup xs) => some xs
  | some (.frz _ (.tup xs)) => some xs
  | _ => none
def dicAt : Option HO → Option (List (Key × V))
  | some (.dK xs) => some xs
  | some (.frz _ (.dK xs)) => some xs
  | _ => none
theorem lstAt_ok {K : PySem.W.Frag} {H : Hp} {a : Addr} {xs : List V} (h : lstAt (H a) = some xs) : SqL K H a xs := by
  unfold lstAt at h
  split at h
  · rename_i q; cases h; exact .inl (.inl q)
  · rename_i o _ q; cases h; exact .inl (.inr ⟨o, q⟩)
  · cases h
theorem tupAt_ok {K : PySem.W.Frag} {H : Hp} {a : Addr} {xs : List V} (h : tupAt (H a) = some xs) : SqT K H a xs := by
  unfold tupAt at h
  split at h
  · rename_i q; cases h; exact .inl (.inl q)
  · rename_i o _ q; cases h; exact .inl (.inr ⟨o, q⟩)
  · cases h
theorem dicAt_ok {H : Hp} {a : Addr} {xs : List (Key × V)} (h : dicAt (H a) = some xs) : Rd H a (.dK xs) := by
  unfold dicAt at h
  split at h
  · rename_i q; cases h; exact .inl q
  · rename_i o _ q; cases h; exact .inr ⟨o, q⟩
  · cases h
/-- a sequence, a dict -/
inductive Rk where | l (xs : List V) | t (xs : List V) | d (kvs : List (Key × V)) | o
def rk : Option HO → Rk
  | some (.lst xs) => .l xs
  | some (.frz _ (.lst xs)) => .l xs
  | some (.tup xs) => .t xs
  | some (.frz _ (.tup xs)) => .t xs
  | some (.dK xs) => .d xs
  | some (.frz _ (.dK xs)) => .d xs
  | _ => .o
theorem rk_l {K : PySem.W.Frag} {H : Hp} {a : Addr} {xs : List V} (h : rk (H a) = .l xs) : SqL K H a xs := by
  unfold rk at h
  split at h <;> first | (rename_i q; cases h; exact .inl (.inl q)) | (rename_i o _ q; cases h; exact .inl (.inr ⟨o, q⟩)) | cases h
theorem rk_t {K : PySem.W.Frag} {H : Hp} {a : Addr} {xs : List V} (h : rk (H a) = .t xs) : SqT K H a xs := by
  unfold rk at h
  split at h <;> first | (rename_i q; cases h; exact .inl (.inl q)) | (rename_i o _ q; cases h; exact .inl (.inr ⟨o, q⟩)) | cases h
theorem rk_d {H : Hp} {a : Addr} {xs : List (Key × V)} (h : rk (H a) = .d xs) : Rd H a (.dK xs) := by
  unfold rk at h
  split at h <;> first | (rename_i q; cases h; exact .inl q) | (rename_i o _ q; cases h; exact .inr ⟨o, q⟩) | cases h
def uAdd (K : PySem.W.Frag) : R2 := fun x y H Q => match x, y with
  | .int i, .int j => Q (.int (i + j)) H
  | .str i, .str j => i.length + j.length ≤ sizeLine ∧ Q (.str (i ++ j)) H
  | .ref a, .ref b => match H a, H b with
    | some (.lst xs), some (.lst ys) => xs.length + ys.length ≤ sizeLine ∧ ∀ p, H p = none → Q (.ref p) (upd H p (.lst (xs ++ ys)))
    | _, _ => rCatA K (.ref a) (.ref b) H Q
  | _, _ => False
theorem op_add : OpR X (binaryOp .Add) (uAdd X.K) := by
  intro pins s σ H x y v u Q I rx ry q
  unfold uAdd at q
  split at q
  · exact L2.op_add pins s σ H _ _ v u Q I rx ry ⟨_, _, rfl, rfl, q⟩
  · exact L2.op_add_str pins s σ H _ _ v u Q I rx ry ⟨_, _, rfl, rfl, q.1, q.2⟩
  · split at q
    · rename_i h1 h2
      exact L2.op_cat pins s σ H _ _ v u Q I rx ry ⟨_, _, _, _, rfl, rfl, h1, h2, q.1, q.2⟩
    · exact L2.op_catA pins s σ H _ _ v u Q I rx ry q
  · exact q.elim
def uSub : R2 := fun x y H Q => match x, y with
  | .int i, .int j => Q (.int (i - j)) H
  | _, _ => False
theorem op_sub : OpR X (binaryOp .Sub) uSub := by
  intro pins s σ H x y v u Q I rx ry q
  unfold uSub at q
  split at q
  · exact L2.op_sub pins s σ H _ _ v u Q I rx ry ⟨_, _, rfl, rfl, q⟩
  · exact q.elim
def uMul (K : PySem.W.Frag) : R2 := fun x y H Q => match x, y with
  | .int i, .int j => CMul i j ∧ Q (.int (i * j)) H
  | .ref a, .int j => match H a with
    | some (.lst xs) => (-(2 ^ 63) ≤ j ∧ j < 2 ^ 63 ∧ xs.length * j.toNat ≤ sizeLine) ∧ ∀ p, H p = none → Q (.ref p) (upd H p (.lst (List.replicate j.toNat xs).flatten))
    | _ => False
  | _, _ => False
theorem op_mul : OpR X (binaryOp .Mult) (uMul X.K) := by
  intro pins s σ H x y v u Q I rx ry q
  unfold uMul at q
  split at q
  · exact L2.op_mul pins s σ H _ _ v u Q I rx ry ⟨_, _, rfl, rfl, q.1, q.2⟩
  · split at q
    · rename_i h1
      exact L2.op_rep pins s σ H _ _ v u Q I rx ry ⟨_, _, _, rfl, rfl, h1, q.1.1, q.1.2.1, q.1.2.2, q.2⟩
    · exact q.elim
  · exact q.elim
def uFdiv : R2 := fun x y H Q => match x, y with
  | .int i, .int j => CDiv i j ∧ Q (.int (i / j)) H
  | _, _ => False
theorem op_fdiv : OpR X (binaryOp .FloorDiv) uFdiv := by
  intro pins s σ H x y v u Q I rx ry q
  unfold uFdiv at q
  split at q
  · exact L2.op_fdiv pins s σ H _ _ v u Q I rx ry ⟨_, _, rfl, rfl, q.1, q.2⟩
  · exact q.elim
def uMod : R2 := fun x y H Q => match x, y with
  | .int i, .int j => 0 < j ∧ Q (.int (i % j)) H
  | _, _ => False
theorem op_mod : OpR X (binaryOp .Mod) uMod := by
  intro pins s σ H x y v u Q I rx ry q
  unfold uMod at q
  split at q
  · exact L2.op_mod pins s σ H _ _ v u Q I rx ry ⟨_, _, rfl, rfl, q.1, q.2⟩
  · exact q.elim
def uPow : R2 := fun x y H Q => match x, y with
  | .int i, .int j => CPow i j ∧ Q (.int (i ^ j.toNat)) H
  | _, _ => False
theorem op_pow : OpR X (binaryOp .Pow) uPow := by
  intro pins s σ H x y v u Q I rx ry q
  unfold uPow at q
  split at q
  · exact L2.op_pow pins s σ H _ _ v u Q I rx ry ⟨_, _, rfl, rfl, q.1, q.2⟩
  · exact q.elim
/-! comparisons -/
def uEq (K : PySem.W.Frag) : R2 := fun x y H Q => match x, y with
  | .int i, .int j => Q (.bl (decide (i = j))) H
  | .bl i, .bl j => Q (.bl (decide (i = j))) H
  | .str i, .str j => Q (.bl (decide (i = j))) H
  | .non, .non => Q (.bl true) H
  | x, y => rEqD K x y H Q
theorem dec_i {i j : Int} : decide (V.int i = V.int j) = decide (i = j) := by
  by_cases h : i = j <;> simp [h]
theorem dec_b {i j : Bool} : decide (V.bl i = V.bl j) = decide (i = j) := by
  by_cases h : i = j <;> simp [h]
theorem dec_s {i j : Str} : decide (V.str i = V.str j) = decide (i = j) := by
  by_cases h : i = j <;> simp [h]
theorem op_eq (hu : X.A.units + 64 < cLine) : OpR X (compareOp .Eq) (uEq X.K) := by
  intro pins s σ H x y v u Q I rx ry q
  unfold uEq at q
  split at q
  · exact L2.op_eq pins s σ H _ _ v u Q I rx ry ⟨rfl, by rw [dec_i]; exact q⟩
  · exact L2.op_eq pins s σ H _ _ v u Q I rx ry ⟨rfl, by rw [dec_b]; exact q⟩
  · exact L2.op_eq pins s σ H _ _ v u Q I rx ry ⟨rfl, by rw [dec_s]; exact q⟩
  · exact L2.op_eq pins s σ H _ _ v u Q I rx ry ⟨rfl, by simpa using q⟩
  · exact L2.op_eqD hu pins s σ H _ _ v u Q I rx ry q
def uNe (K : PySem.W.Frag) : R2 := fun x y H Q => match x, y with
  | .int i, .int j => Q (.bl (!decide (i = j))) H
  | .bl i, .bl j => Q (.bl (!decide (i = j))) H
  | .str i, .str j => Q (.bl (!decide (i = j))) H
  | .non, .non => Q (.bl false) H
  | x, y => rNeD K x y H Q
theorem op_ne (hu : X.A.units + 64 < cLine) : OpR X (compareOp .NotEq) (uNe X.K) := by
  intro pins s σ H x y v u Q I rx ry q
  unfold uNe at q
  split at q
  · exact L2.op_ne pins s σ H _ _ v u Q I rx ry ⟨rfl, by rw [dec_i]; exact q⟩
  · exact L2.op_ne pins s σ H _ _ v u Q I rx ry ⟨rfl, by rw [dec_b]; exact q⟩
  · exact L2.op_ne pins s σ H _ _ v u Q I rx ry ⟨rfl, by rw [dec_s]; exact q⟩
  · exact L2.op_ne pins s σ H _ _ v u Q I rx ry ⟨rfl, by simpa using q⟩
  · exact L2.op_neD hu pins s σ H _ _ v u Q I rx ry q
def uLt (K : PySem.W.Frag) : R2 := fun x y H Q => match x, y with
  | .int i, .int j => Q (.bl (decide (i < j))) H
  | .ref a, .ref b => rLtT K (.ref a) (.ref b) H Q
  | _, _ => False
theorem op_lt (hu : X.A.units < cLine) : OpR X (compareOp .Lt) (uLt X.K) := by
  intro pins s σ H x y v u Q I rx ry q
  unfold uLt at q
  split at q
  · exact L2.op_lt pins s σ H _ _ v u Q I rx ry ⟨_, _, rfl, rfl, q⟩
  · exact L2.op_ltT hu pins s σ H _ _ v u Q I rx ry q
  · exact q.elim
def uLe : R2 := fun x y H Q => match x, y with
  | .int i, .int j => Q (.bl (decide (i ≤ j))) H
  | _, _ => False
theorem op_le : OpR X (compareOp .LtE) uLe := by
  intro pins s σ H x y v u Q I rx ry q
  unfold uLe at q
  split at q
  · exact L2.op_le pins s σ H _ _ v u Q I rx ry ⟨_, _, rfl, rfl, q⟩
  · exact q.elim
def uGt : R2 := fun x y H Q => match x, y with
  | .int i, .int j => Q (.bl (decide (j < i))) H
  | _, _ => False
theorem op_gt : OpR X (compareOp .Gt) uGt := by
  intro pins s σ H x y v u Q I rx ry q
  unfold uGt at q
  split at q
  · exact L2.op_gt pins s σ H _ _ v u Q I rx ry ⟨_, _, rfl, rfl, q⟩
  · exact q.elim
def uGe : R2 := fun x y H Q => match x, y with
  | .int i, .int j => Q (.bl (decide (j ≤ i))) H
  | _, _ => False
theorem op_ge : OpR X (compareOp .GtE) uGe := by
  intro pins s σ H x y v u Q I rx ry q
  unfold uGe at q
  split at q
  · exact L2.op_ge pins s σ H _ _ v u Q I rx ry ⟨_, _, rfl, rfl, q⟩
  · exact q.elim
/-- is None, is not None -/
def uIsN : R2 := fun x y H Q => y = .non ∧ Q (.bl (decide (x = .non))) H
def uNotN : R2 := fun x y H Q => y = .non ∧ Q (.bl (!decide (x = .non))) H
theorem op_isN : OpR X (compareOp .Is) uIsN := L2.op_isN
theorem op_notN : OpR X (compareOp .IsNot) uNotN := L2.op_notN
/-- in, not in: a list or tuple of flat things, a dict, a text -/
def keyV : V → Option Key
  | .int i => some (.inl i)
  | .str z => some (.inr z)
  | _ => none
theorem keyV_ok {x : V} {k : Key} (h : keyV x = some k) : x = kV k := by
  unfold keyV at h
  split at h <;> first | (cases h; rfl) | cases h
def uInB (K : PySem.W.Frag) (neg : Bool) : R2 := fun x y H Q => match x, y with
  | .str i, .str j => Q (.bl (if neg then !(!(Builtin.Str.occurrences j i 0 j.length 1).isEmpty) else (!(Builtin.Str.occurrences j i 0 j.length 1).isEmpty))) H
  | x, .ref a => match rk (H a) with
    | .l xs => (flatV x = true ∧ xs.all flatV = true) ∧ Q (.bl (if neg then !inV x xs else inV x xs)) H
    | .t xs => (flatV x = true ∧ xs.all flatV = true) ∧ Q (.bl (if neg then !inV x xs else inV x xs)) H
    | .d kvs => match keyV x with
      | some k => Q (.bl (if neg then !(valV kvs k).isSome else (valV kvs k).isSome)) H
      | none => False
    | .o => rIn K neg x (.ref a) H Q
  | _, _ => False
abbrev uIn (K : PySem.W.Frag) : R2 := uInB K false
abbrev uNotIn (K : PySem.W.Frag) : R2 := uInB K true
theorem op_in (hu : X.A.units + 1 < cLine) : OpR X (compareOp .In) (uIn X.K) := by
  intro pins s σ H x y v u Q I rx ry q
  unfold uIn uInB at q
  split at q
  · exact L2.op_in_str pins s σ H _ _ v u Q I rx ry ⟨_, _, rfl, rfl, q⟩
  · split at q
    · rename_i h
      exact L2.op_in_seq pins s σ H _ _ v u Q I rx ry ⟨_, _, rfl, .inl (rk_l h), q.1.1, q.1.2, q.2⟩
    · rename_i h
      exact L2.op_in_seq pins s σ H _ _ v u Q I rx ry ⟨_, _, rfl, .inr (rk_t h), q.1.1, q.1.2, q.2⟩
    · rename_i h
      split at q
      · rename_i k hk
        cases ry
        cases keyV_ok hk
        exact d_in hu I (.inl ⟨_, k, rk_d h, rfl, rfl⟩) rx fun s3 I3 => ⟨.bl (valV _ k).isSome, H, I3, rfl, q⟩
      · exact q.elim
    · exact L2.op_in_seq pins s σ H _ _ v u Q I rx ry q
  · exact q.elim
theorem op_notIn (hu : X.A.units + 1 < cLine) : OpR X (compareOp .NotIn) (uNotIn X.K) := by
  intro pins s σ H x y v u Q I rx ry q
  unfold uNotIn uInB at q
  split at q
  · exact L2.op_notIn_str pins s σ H _ _ v u Q I rx ry ⟨_, _, rfl, rfl, q⟩
  · split at q
    · rename_i h
      exact L2.op_notIn_seq pins s σ H _ _ v u Q I rx ry ⟨_, _, rfl, .inl (rk_l h), q.1.1, q.1.2, q.2⟩
    · rename_i h
      exact L2.op_notIn_seq pins s σ H _ _ v u Q I rx ry ⟨_, _, rfl, .inr (rk_t h), q.1.1, q.1.2, q.2⟩
    · rename_i h
      split at q
      · rename_i k hk
        cases ry
        cases keyV_ok hk
        exact d_notIn hu I (.inl ⟨_, k, rk_d h, rfl, rfl⟩) rx fun s3 I3 => ⟨.bl (!(valV _ k).isSome), H, I3, rfl, q⟩
      · exact q.elim
    · exact L2.op_notIn_seq pins s σ H _ _ v u Q I rx ry q
  · exact q.elim
/-! truth -/
def uTru (K : PySem.W.Frag) (x : V) (H : Hp) (Q : Bool → Hp → Prop) : Prop := match x with
  | .non => Q false H
  | .bl b => Q b H
  | .int i => Q (i != 0) H
  | .str z => z.length ≤ sizeLine ∧ Q ((z.length : Int) != 0) H
  | .ref a => match H a with
    | some (.lst xs) => Q (!xs.isEmpty) H
    | some (.tup xs) => Q (!xs.isEmpty) H
    | some (.dK xs) => Q (!xs.isEmpty) H
    | _ => ∃ k, TruV K (.ref a) H k ∧ Q k H
  | _ => False
def tTru (K : PySem.W.Frag) (ta : TE) : TT := fun σ H Q => ta σ H fun x H' => uTru K x H' Q
theorem pt_any {a : Expr} {ta : TE} (ha : PE X a ta) (he : ∀ whole, isTrue a X.env whole = (do let v ← whole; standAt a.pos; holding [v] (truthy v)) := by intro _; rfl) : PT X a (tTru X.K ta) := by
  refine ⟨fun pins s σ H Q I h => ?_⟩
  refine isTrue_plain (thn (ha.run pins s σ H _ I h) fun v s1 ⟨x, H1, I1, r1, q1⟩ => tru_ok pins s1 σ H1 x v Q I1 r1 ?_) (he _)
  have q1 : uTru X.K x H1 Q := q1
  unfold uTru at q1
  split at q1
  · exact ⟨_, rfl, q1⟩
  · exact ⟨_, rfl, q1⟩
  · exact ⟨_, rfl, q1⟩
  · exact ⟨_, ⟨q1.1, rfl⟩, q1.2⟩
  · split at q1
    · rename_i h
      exact ⟨_, .inl ⟨_, .inl (.inl h), rfl⟩, q1⟩
    · rename_i h
      exact ⟨_, .inr (.inl ⟨_, .inl (.inl h), rfl⟩), q1⟩
    · rename_i h
      exact ⟨_, .inr (.inr ⟨_, h, rfl⟩), q1⟩
    · exact q1
  · exact q1.elim
/-! items -/
def uIx (K : PySem.W.Frag) : R2 := fun x y H Q => match x, y with
  | .str z, .int i => z.length ≤ sizeLine ∧ (match atI z.cps.toList i with | some c => Q (.str ⟨#[c]⟩) H | none => False)
  | .ref a, y => match rk (H a), y with
    | .l xs, .int i => (match atI xs i with | some v => Q v H | none => False)
    | .t xs, .int i => (match atI xs i with | some v => Q v H | none => False)
    | .d kvs, .int i => (match valV kvs (.inl i) with | some v => Q v H | none => False)
    | .d kvs, .str i => (match valV kvs (.inr i) with | some v => Q v H | none => False)
    | .o, y => rIxL K (.ref a) y H Q ∨ rIxT K (.ref a) y H Q ∨ ∃ v, DGet H a y (some v) ∧ Q v H
    | _, _ => False
  | _, _ => False
theorem ix_dict (hu : X.A.units + 1 < cLine) : IxR X (fun x y H Q => ∃ a v, x = .ref a ∧ DGet H a y (some v) ∧ Q v H) := by
  intro value slice pins s σ H x y v u Q I rx ry q hs
  obtain ⟨a, w, rfl, g, q⟩ := q
  obtain rfl : v = Value.ref a := rx
  unfold subscriptTail
  refine wpAny_bind ?_
  rw [getitemInPython_of_ne (dict_typeIs I g).not_modules]
  refine wpAny_bind (wpAny_specialOf (dict_typeIs I g) PySem.F.slot_dict_getitem.lookup ?_)
  have fin : wpAny (model X.prog X.w) X.A (subscripted slice false (.ref a) u) (fun r s₃ => wpAny (model X.prog X.w) X.A (letTemporaryGo value (.ref a) r >>= fun _ => pure r) (EP X pins σ Q) X.xe s₃) X.xe s := by
    rw [hs]
    exact wpAny_operating (d_getItem hu I g ry fun w' s3 I3 rw' => wpAny_bind (wpAny_letTemporaryGo (wpAny_pure ⟨w, H, I3, rw', q⟩)))
  first
    | exact wpAny_pure (wpAny_bind fin)
    | exact wpAny_bind (wpAny_pure (wpAny_bind fin))
    | exact wpAny_bind fin
theorem ix_any (hu : X.A.units + 1 < cLine) : IxR X (uIx X.K) := by
  intro value slice pins s σ H x y v u Q I rx ry q hs
  unfold uIx at q
  split at q
  · obtain ⟨q1, q⟩ := q
    split at q
    · rename_i c hc
      exact ix_str value slice pins s σ H _ _ v u Q I rx ry ⟨_, _, c, rfl, rfl, q1, hc, q⟩ hs
    · exact q.elim
  · split at q
    · rename_i h
      split at q
      · rename_i c hc
        exact ix_list value slice pins s σ H _ _ v u Q I rx ry ⟨_, _, _, c, rfl, rfl, rk_l h, hc, q⟩ hs
      · exact q.elim
    · rename_i h
      split at q
      · rename_i c hc
        exact ix_tup value slice pins s σ H _ _ v u Q I rx ry ⟨_, _, _, c, rfl, rfl, rk_t h, hc, q⟩ hs
      · exact q.elim
    · rename_i h
      split at q
      · rename_i c hc
        exact ix_dict hu value slice pins s σ H _ _ v u Q I rx ry ⟨_, c, rfl, .inl ⟨_, .inl _, rk_d h, rfl, hc.symm⟩, q⟩ hs
      · exact q.elim
    · rename_i h
      split at q
      · rename_i c hc
        exact ix_dict hu value slice pins s σ H _ _ v u Q I rx ry ⟨_, c, rfl, .inl ⟨_, .inr _, rk_d h, rfl, hc.symm⟩, q⟩ hs
      · exact q.elim
    · rcases q with q | q | ⟨w, g, q⟩
      · exact ix_list value slice pins s σ H _ _ v u Q I rx ry q hs
      · exact ix_tup value slice pins s σ H _ _ v u Q I rx ry q hs
      · exact ix_dict hu value slice pins s σ H _ _ v u Q I rx ry ⟨_, w, rfl, g, q⟩ hs
    · exact q.elim
  · exact q.elim
def uSet : TSet := fun o i v H Q => match o with
  | .ref p => match H p with
    | some (.lst xs) => (match i with
      | .int k => (match ixN xs.length k with | some j => Q (upd H p (.lst (xs.set j v))) | none => False)
      | _ => False)
    | some (.dK kvs) => (match i with
      | .int k => kvs.length < sizeLine ∧ Q (upd H p (.dK (putK kvs (.inl k) v)))
      | .str k => kvs.length < sizeLine ∧ Q (upd H p (.dK (putK kvs (.inr k) v)))
      | _ => False)
    | _ => ∃ H', DPut H p i v H' ∧ Q H'
  | _ => False
theorem set_any (hu : X.A.units + 1 < cLine) : PSet X uSet := by
  intro pins s σ H o i v ov iv u Q I ro ri rv q
  have dict : ∀ p H', o = .ref p → DPut H p i v H' → Q H' → wpAny (model X.prog X.w) X.A (setItem ov iv u) (fun _ s' => ∃ H', Inv X pins σ H' s' ∧ Q H') X.xe s := by
    intro p H' e g q'
    subst e
    obtain rfl : ov = Value.ref p := ro
    exact d_setItem hu I g ri rv fun s4 I4 => ⟨H', I4, q'⟩
  unfold uSet at q
  split at q
  · split at q
    · rename_i h
      split at q
      · split at q
        · rename_i j hj
          exact set_list pins s σ H _ _ v ov iv u Q I ro ri rv ⟨_, _, _, j, rfl, rfl, h, hj, q⟩
        · exact q.elim
      · exact q.elim
    · rename_i h
      split at q
      · exact dict _ _ rfl (.inl ⟨_, .inl _, h, rfl, q.1, rfl⟩) q.2
      · exact dict _ _ rfl (.inl ⟨_, .inr _, h, rfl, q.1, rfl⟩) q.2
      · exact q.elim
    · obtain ⟨H', g, q⟩ := q
      exact dict _ _ rfl g q
  · exact q.elim
/-! slices -/
def uSl (K : PySem.W.Frag) : V → Option Int → Option Int → Hp → VK → Prop := fun x lo hi H Q => match x with
  | .str z => z.length ≤ sizeLine ∧ Q (.str (cutS z lo hi)) H
  | .ref a => match rk (H a) with
    | .l xs => ∀ p, H p = none → Q (.ref p) (upd H p (.lst (cutV xs lo hi)))
    | _ => rSlL K (.ref a) lo hi H Q ∨ rSlA K (.ref a) lo hi H Q
  | _ => False
theorem sl_any : SlR X (uSl X.K) := by
  intro pins s σ H x v vl vu lo hi sl Q I rx hs pl pu q
  unfold uSl at q
  split at q
  · exact sl_str pins s σ H _ v vl vu lo hi sl Q I rx hs pl pu ⟨_, rfl, q.1, q.2⟩
  · split at q
    · rename_i h
      exact sl_list pins s σ H _ v vl vu lo hi sl Q I rx hs pl pu ⟨_, _, rfl, rk_l h, q⟩
    · rcases q with q | q
      · exact sl_list pins s σ H _ v vl vu lo hi sl Q I rx hs pl pu q
      · exact sl_tupA pins s σ H _ v vl vu lo hi sl Q I rx hs pl pu q
  · exact q.elim
/-! built-ins -/
def uLen (K : PySem.W.Frag) : List V → Hp → VK → Prop := fun vs H Q => match vs with
  | [.str z] => z.length ≤ sizeLine ∧ Q (.int z.length) H
  | [.ref a] => match rk (H a) with
    | .l xs => Q (.int xs.length) H
    | .t xs => Q (.int xs.length) H
    | .d xs => Q (.int xs.length) H
    | .o => ∃ ys, (SqL K H a ys ∨ SqT K H a ys) ∧ Q (.int ys.length) H
  | _ => False
theorem c_len : CallR X (.builtin "len") (uLen X.K) := by
  intro pins s σ H vs us Q I r q
  unfold uLen at q
  split at q
  · exact call_len_str pins s σ H _ us Q I r ⟨_, rfl, q.1, q.2⟩
  · split at q
    · rename_i h
      exact call_len_seq pins s σ H _ us Q I r ⟨_, _, rfl, .inl (rk_l h), q⟩
    · rename_i h
      exact call_len_seq pins s σ H _ us Q I r ⟨_, _, rfl, .inr (rk_t h), q⟩
    · rename_i kvs h
      obtain ⟨u, rfl, ru⟩ := vals1 r
      obtain rfl : u = Value.ref _ := ru
      exact d_len I (rk_d h) fun t s3 I3 => ⟨.int kvs.length, H, I3, ⟨t, rfl⟩, q⟩
    · obtain ⟨ys, h, q⟩ := q
      exact call_len_seq pins s σ H _ us Q I r ⟨_, ys, rfl, h, q⟩
  · exact q.elim
def uInt : List V → Hp → VK → Prop := fun vs H Q => match vs with
  | [.int i] => Q (.int i) H
  | [.bl k] => Q (.int (if k then 1 else 0)) H
  | [.str a] => ∃ n, PySem.intText? a = some n ∧ a.length ≤ 640 ∧ Q (.int n) H
  | _ => False
theorem c_int : CallR X (.type "int") uInt := by
  intro pins s σ H vs us Q I r q
  unfold uInt at q
  split at q
  · exact call_int1 pins s σ H _ us Q I r (.inl ⟨_, rfl, q⟩)
  · exact call_int1 pins s σ H _ us Q I r (.inr ⟨_, rfl, q⟩)
  · obtain ⟨n, h1, h2, q⟩ := q
    exact call_int_str pins s σ H _ us Q I r ⟨_, n, rfl, h1, h2, q⟩
  · exact q.elim
def uTuple (K : PySem.W.Frag) : List V → Hp → VK → Prop := fun vs H Q => match vs with
  | [.ref a] => match rk (H a) with
    | .l ys => ∀ l, H l = none → Q (.ref l) (upd H l (.tup ys))
    | .t _ => Q (.ref a) H
    | _ => ∃ ys, (SqL K H a ys ∧ ∀ l, H l = none → Q (.ref l) (upd H l (.tup ys))) ∨ (SqT K H a ys ∧ Q (.ref a) H)
  | _ => False
theorem c_tuple : CallR X (.type "tuple") (uTuple X.K) := by
  intro pins s σ H vs us Q I r q
  unfold uTuple at q
  split at q
  · split at q
    · rename_i ys h
      exact call_tuple_of pins s σ H _ us Q I r ⟨_, ys, rfl, .inl ⟨rk_l h, q⟩⟩
    · rename_i ys h
      exact call_tuple_of pins s σ H _ us Q I r ⟨_, ys, rfl, .inr ⟨rk_t h, q⟩⟩
    · obtain ⟨ys, q⟩ := q
      exact call_tuple_of pins s σ H _ us Q I r ⟨_, ys, rfl, q⟩
  · exact q.elim
def uList (K : PySem.W.Frag) : List V → Hp → VK → Prop := fun vs H Q => match vs with
  | [.ref a] => match rk (H a) with
    | .l ys => ∀ l, H l = none → Q (.ref l) (upd H l (.lst ys))
    | .t ys => ∀ l, H l = none → Q (.ref l) (upd H l (.lst ys))
    | _ => ∃ ys, (SqL K H a ys ∨ SqT K H a ys) ∧ ∀ l, H l = none → Q (.ref l) (upd H l (.lst ys))
  | _ => False
theorem c_list : CallR X (.type "list") (uList X.K) := by
  intro pins s σ H vs us Q I r q
  unfold uList at q
  split at q
  · split at q
    · rename_i ys h
      exact call_list_of pins s σ H _ us Q I r ⟨_, ys, rfl, .inl (rk_l h), q⟩
    · rename_i ys h
      exact call_list_of pins s σ H _ us Q I r ⟨_, ys, rfl, .inr (rk_t h), q⟩
    · obtain ⟨ys, h, q⟩ := q
      exact call_list_of pins s σ H _ us Q I r ⟨_, ys, rfl, h, q⟩
  · exact q.elim
/-- the type's name of a value -/
def tyN (K : PySem.W.Frag) (H : Hp) : V → String
  | .non => "NoneType"
  | .bl _ => "bool"
  | .int _ => "int"
  | .str _ => "str"
  | .ref a => (match rk (H a) with | .l _ => "list" | .t _ => "tuple" | .d _ => "dict" | .o => "?")
  | _ => "?"
/-- its kind can be told -/
def Known (H : Hp) : V → Prop
  | .non => True
  | .bl _ => True
  | .int _ => True
  | .str _ => True
  | .ref a => rk (H a) ≠ .o
  | _ => False
theorem known_x {K : PySem.W.Frag} {H : Hp} {x : V} (h : Known H x) : TyX K H x (.type (tyN K H x)) := by
  unfold Known at h
  unfold tyN
  split at h
  · exact .base .non
  · exact .base (.bl _)
  · exact .base (.int _)
  · exact .base (.str _)
  · rename_i a
    show TyX K H (.ref a) (.type (match rk (H a) with | .l _ => "list" | .t _ => "tuple" | .d _ => "dict" | .o => "?"))
    cases e : rk (H a) with
    | o => exact absurd e h
    | l xs =>
      rcases rk_l (K := K) e with (h | ⟨o, h⟩) | ⟨o, its, n, h, c, _⟩
      · exact .base (.lst h)
      · exact .base (.frz h)
      · exact .kList h c
    | t xs =>
      rcases rk_t (K := K) e with (h | ⟨o, h⟩) | ⟨o, its, n, h, c, _⟩
      · exact .base (.tup h)
      · exact .fTuple h
      · exact .kTuple h c
    | d xs =>
      rcases rk_d e with h | ⟨o, h⟩
      · exact .base (.dK h)
      · exact .fDict h
  · exact h.elim
theorem known_n {K : PySem.W.Frag} {H : Hp} {x : V} (h : Known H x) : tyN K H x = "NoneType" ∨ tyN K H x = "bool" ∨ tyN K H x = "int" ∨ tyN K H x = "str" ∨ tyN K H x = "list" ∨ tyN K H x = "tuple" ∨ tyN K H x = "dict" := by
  unfold Known at h
  split at h
  · exact .inl rfl
  · exact .inr (.inl rfl)
  · exact .inr (.inr (.inl rfl))
  · exact .inr (.inr (.inr (.inl rfl)))
  · rename_i a
    cases e : rk (H a) with
    | o => exact absurd e h
    | l xs => exact .inr (.inr (.inr (.inr (.inl (by unfold tyN; simp only [e])))))
    | t xs => exact .inr (.inr (.inr (.inr (.inr (.inl (by unfold tyN; simp only [e]))))))
    | d xs => exact .inr (.inr (.inr (.inr (.inr (.inr (by unfold tyN; simp only [e]))))))
  · exact h.elim
/-- isinstance's answer, by the types' names -/
def isiN (t T : String) : Bool := decide (t = T) || (decide (t = "bool") && decide (T = "int"))
theorem isi_kit {K : PySem.W.Frag} {t T : String} (h1 : t = "NoneType" ∨ t = "bool" ∨ t = "int" ∨ t = "str" ∨ t = "list" ∨ t = "tuple" ∨ t = "dict") (h2 : T = "int" ∨ T = "bool" ∨ T = "str" ∨ T = "tuple" ∨ T = "list") : PySem.W.kitOne K (.type t) (.type T) = some (isiN t T) := by
  rcases h1 with rfl | rfl | rfl | rfl | rfl | rfl | rfl <;> rcases h2 with rfl | rfl | rfl | rfl | rfl <;> exact kit_ty (by decide +kernel)
/-- is a value of the type? -/
def isV (K : PySem.W.Frag) (H : Hp) (x : V) (T : String) : Bool := isiN (tyN K H x) T
def uIsi (K : PySem.W.Frag) : List V → Hp → VK → Prop := fun vs H Q => match vs with
  | [x, .ty T] => Known H x ∧ (T = "int" ∨ T = "bool" ∨ T = "str" ∨ T = "tuple" ∨ T = "list") ∧ Q (.bl (isV K H x T)) H
  | _ => False
theorem c_isi : CallR X (.builtin "isinstance") (uIsi X.K) := by
  intro pins s σ H vs us Q I r q
  unfold uIsi at q
  split at q
  · obtain ⟨h1, h2, q⟩ := q
    exact call_isi pins s σ H _ us Q I r ⟨_, _, _, _, _, rfl, .ty _, known_x h1, isi_kit (known_n h1) h2, q⟩
  · exact q.elim
theorem isV_non {K : PySem.W.Frag} {H : Hp} {T : String} : isV K H .non T = false ∨ T = "NoneType" := by
  by_cases h : T = "NoneType"
  · exact .inr h
  · exact .inl (by unfold isV tyN isiN; simp [Ne.symm h])
def uMin (K : PySem.W.Frag) : List V → Hp → VK → Prop := fun vs H Q => match vs with
  | [.int i, .int j] => Q (.int (if j < i then j else i)) H
  | [.ref a] => ∃ ns : List Int, SqL K H a (ns.map V.int) ∧ 0 < ns.length ∧ ∀ m, m ∈ ns → (∀ y, y ∈ ns → m ≤ y) → Q (.int m) H
  | _ => False
theorem c_min (hc : X.calm = true) : CallR X (.builtin "min") (uMin X.K) := by
  intro pins s σ H vs us Q I r q
  unfold uMin at q
  split at q
  · exact call_min2 hc pins s σ H _ us Q I r ⟨_, _, rfl, q⟩
  · obtain ⟨ns, h1, h2, q⟩ := q
    exact cr_min hc pins s σ H _ us Q I r ⟨_, ns, rfl, h1, h2, q⟩
  · exact q.elim
def uMax (K : PySem.W.Frag) : List V → Hp → VK → Prop := fun vs H Q => match vs with
  | [.int i, .int j] => Q (.int (if j > i then j else i)) H
  | [.ref a] => ∃ ns : List Int, SqL K H a (ns.map V.int) ∧ 0 < ns.length ∧ ∀ m, m ∈ ns → (∀ y, y ∈ ns → y ≤ m) → Q (.int m) H
  | _ => False
theorem c_max (hc : X.calm = true) : CallR X (.builtin "max") (uMax X.K) := by
  intro pins s σ H vs us Q I r q
  unfold uMax at q
  split at q
  · exact call_max2 hc pins s σ H _ us Q I r ⟨_, _, rfl, q⟩
  · obtain ⟨ns, h1, h2, q⟩ := q
    exact cr_max hc pins s σ H _ us Q I r ⟨_, ns, rfl, h1, h2, q⟩
  · exact q.elim
def uAny (K : PySem.W.Frag) : List V → Hp → VK → Prop := fun vs H Q => match vs with
  | [.ref a] => ∃ bs : List Bool, SqL K H a (bs.map V.bl) ∧ Q (.bl (bs.any id)) H
  | _ => False
theorem c_any (hc : X.calm = true) : CallR X (.builtin "any") (uAny X.K) := by
  intro pins s σ H vs us Q I r q
  unfold uAny at q
  split at q
  · obtain ⟨bs, h1, q⟩ := q
    exact cr_any hc pins s σ H _ us Q I r ⟨_, bs, rfl, h1, q⟩
  · exact q.elim
def uAll (K : PySem.W.Frag) : List V → Hp → VK → Prop := fun vs H Q => match vs with
  | [.ref a] => ∃ bs : List Bool, SqL K H a (bs.map V.bl) ∧ Q (.bl (bs.all id)) H
  | _ => False
theorem c_all (hc : X.calm = true) : CallR X (.builtin "all") (uAll X.K) := by
  intro pins s σ H vs us Q I r q
  unfold uAll at q
  split at q
  · obtain ⟨bs, h1, q⟩ := q
    exact cr_all hc pins s σ H _ us Q I r ⟨_, bs, rfl, h1, q⟩
  · exact q.elim
/-! a target o.f -/
def gFld (K : PySem.W.Frag) (ta : TE) (f : Str) : TG := fun y σ H Q => ta σ H fun x H2 => ∃ a C dx fs, x = .ref a ∧ H2 a = some (.ins C dx fs) ∧ Cls K C ∧ NoAttr K C f ∧ fs.length < 1000 ∧ Q σ (upd H2 a (.ins C dx (putF f y fs)))
theorem pg_fld {o : Expr} {f : Str} {pos : Pos} {ta : TE} (ha : PE X o ta) : PG X (.Attribute o f pos) (gFld X.K ta f) := by
  refine ⟨fun pins s σ H v u Q I r h => ?_⟩
  rw [PySem.assign_Attribute]
  refine wpAny_bind (wpAny_holding (thn (ha.run pins s σ H _ I h) fun ov s1 ⟨x, H1, I1, r1, a, C, dx, fs, ex, ea, c, n, l, q⟩ => ?_))
  subst ex
  obtain rfl : ov = Value.ref a := r1
  refine wpAny_bind (wpAny_standAt (wpAny_bind (wpAny_holding (setattr_ok I1 ea c n l r fun s3 I3 => ?_))))
  exact wpAny_release ⟨σ, _, I3, q⟩
/-! walks: a list or a tuple -/
def iSeq (K : PySem.W.Frag) (tl : TE) : TI := fun σ H R => tl σ H fun x H1 => ∃ a, x = .ref a ∧ (((∃ xs, SqL K H1 a xs) ∧ R (Itl K a) H1) ∨ ((∃ xs, SqT K H1 a xs) ∧ R (Itt K a) H1))
theorem pi_seq {tg l : Expr} {tl : TE} (hl : PE X l tl) : PI X tg l (iSeq X.K tl) := by
  refine ⟨fun pins s σ H R I h => ?_⟩
  refine thn (hl.run pins s σ H _ I h) fun v s1 ⟨x, H1, I1, r1, q1⟩ => ?_
  obtain ⟨a, e, q⟩ := q1
  have Z : PE { X with xe := X.xe } l tl := hl
  rcases q with ⟨hx, q⟩ | ⟨hx, q⟩
  · obtain ⟨xs, hq⟩ := hx
    subst e
    cases r1
    obtain ⟨its, rv, p, hz⟩ := I1.list hq
    refine wpAny_pyIter_list p.isList ?_
    refine ⟨s1.heap.objs.size, [s1.heap.objs.size], _, _, H1, rfl, I1.kept (t' := s1.toks) fun b o e => Heap.get?_push_of_some _ e, turn_list a _, ⟨_, Heap.get?_push_size _ rfl, rfl, rfl⟩, fun b hb => ?_, q⟩
    have e : b = s1.heap.objs.size := by simpa using hb
    subst e
    exact I1.fpOk (Nat.le_refl _) (I1.hok.fresh (Nat.le_refl _))
  · obtain ⟨xs, hq⟩ := hx
    subst e
    cases r1
    obtain ⟨its, rv, p, hz⟩ := I1.tuple hq
    refine wpAny_pyIter_tuple (show s1.heap.IsTuple a its.toArray from p) ?_
    refine ⟨s1.heap.objs.size, [s1.heap.objs.size], _, _, H1, rfl, I1.kept (t' := s1.toks) fun b o e => Heap.get?_push_of_some _ e, turn_tuple a _, ⟨_, Heap.get?_push_size _ rfl, rfl, rfl⟩, fun b hb => ?_, q⟩
    have e : b = s1.heap.objs.size := by simpa using hb
    subst e
    exact I1.fpOk (Nat.le_refl _) (I1.hok.fresh (Nat.le_refl _))
/-! a module's int -/
theorem pe_gint {x : Str} {n : Int} {pos : Pos} (h : ∃ t, X.mg x = some (.int n t)) (hg : Gl X x := by rfl) (hd : (x == ("__debug__" : Str)) = false := by decide) : PE X (.Name x pos) (tC (.int n)) := by
  obtain ⟨t, e⟩ := h
  exact pe_glob hg e ⟨t, rfl⟩ hd
theorem pe_gstr {x : Str} {n : Str} {pos : Pos} (h : ∃ t, X.mg x = some (.str n t)) (hg : Gl X x := by rfl) (hd : (x == ("__debug__" : Str)) = false := by decide) : PE X (.Name x pos) (tC (.str n)) := by
  obtain ⟨t, e⟩ := h
  exact pe_glob hg e ⟨t, rfl⟩ hd
theorem pe_gref {x : Str} {a : Addr} {pos : Pos} (h : X.mg x = some (.ref a)) (hg : Gl X x := by rfl) (hd : (x == ("__debug__" : Str)) = false := by decide) : PE X (.Name x pos) (tC (.ref a)) := pe_glob hg h rfl hd
theorem pe_ty {x : Str} {n : String} {pos : Pos} (h : X.mg x = none) (hv : bootBuiltins x = some (.type n)) (hg : Gl X x := by rfl) (hn : x ≠ "__name__" := by decide) (hd : (x == ("__debug__" : Str)) = false := by decide) : PE X (.Name x pos) (tC (.ty n)) :=
  pe_bltn hg h hv rfl hn hd
end
/-! ### promises by the number of arguments -/
def S1 (f : V → Hp → VK → XK → Prop) : Sp := fun vs H Q E => match vs with | [a] => f a H Q E | _ => False
def S2 (f : V → V → Hp → VK → XK → Prop) : Sp := fun vs H Q E => match vs with | [a, b] => f a b H Q E | _ => False
def S3 (f : V → V → V → Hp → VK → XK → Prop) : Sp := fun vs H Q E => match vs with | [a, b, c] => f a b c H Q E | _ => False
def S4 (f : V → V → V → V → Hp → VK → XK → Prop) : Sp := fun vs H Q E => match vs with | [a, b, c, d] => f a b c d H Q E | _ => False
def S5 (f : V → V → V → V → V → Hp → VK → XK → Prop) : Sp := fun vs H Q E => match vs with | [a, b, c, d, e] => f a b c d e H Q E | _ => False
def S6 (f : V → V → V → V → V → V → Hp → VK → XK → Prop) : Sp := fun vs H Q E => match vs with | [a, b, c, d, e, g] => f a b c d e g H Q E | _ => False
theorem S1.use {f} {vs : List V} {H : Hp} {Q : VK} {E : XK} (h : S1 f vs H Q E) {P : List V → Prop} (k : ∀ a, f a H Q E → P [a]) : P vs := by
  unfold S1 at h
  split at h
  · exact k _ h
  · exact h.elim
theorem S2.use {f} {vs : List V} {H : Hp} {Q : VK} {E : XK} (h : S2 f vs H Q E) {P : List V → Prop} (k : ∀ a b, f a b H Q E → P [a, b]) : P vs := by
  unfold S2 at h
  split at h
  · exact k _ _ h
  · exact h.elim
theorem S3.use {f} {vs : List V} {H : Hp} {Q : VK} {E : XK} (h : S3 f vs H Q E) {P : List V → Prop} (k : ∀ a b c, f a b c H Q E → P [a, b, c]) : P vs := by
  unfold S3 at h
  split at h
  · exact k _ _ _ h
  · exact h.elim
theorem S4.use {f} {vs : List V} {H : Hp} {Q : VK} {E : XK} (h : S4 f vs H Q E) {P : List V → Prop} (k : ∀ a b c d, f a b c d H Q E → P [a, b, c, d]) : P vs := by
  unfold S4 at h
  split at h
  · exact k _ _ _ _ h
  · exact h.elim
theorem S5.use {f} {vs : List V} {H : Hp} {Q : VK} {E : XK} (h : S5 f vs H Q E) {P : List V → Prop} (k : ∀ a b c d e, f a b c d e H Q E → P [a, b, c, d, e]) : P vs := by
  unfold S5 at h
  split at h
  · exact k _ _ _ _ _ h
  · exact h.elim
theorem S6.use {f} {vs : List V} {H : Hp} {Q : VK} {E : XK} (h : S6 f vs H Q E) {P : List V → Prop} (k : ∀ a b c d e g, f a b c d e g H Q E → P [a, b, c, d, e, g]) : P vs := by
  unfold S6 at h
  split at h
  · exact k _ _ _ _ _ _ h
  · exact h.elim
theorem S1.len {f} {vs : List V} {H : Hp} {Q : VK} {E : XK} (h : S1 f vs H Q E) : vs.length = 1 := h.use (P := fun vs => vs.length = 1) fun _ _ => rfl
theorem S2.len {f} {vs : List V} {H : Hp} {Q : VK} {E : XK} (h : S2 f vs H Q E) : vs.length = 2 := h.use (P := fun vs => vs.length = 2) fun _ _ _ => rfl
theorem S3.len {f} {vs : List V} {H : Hp} {Q : VK} {E : XK} (h : S3 f vs H Q E) : vs.length = 3 := h.use (P := fun vs => vs.length = 3) fun _ _ _ _ => rfl
theorem S4.len {f} {vs : List V} {H : Hp} {Q : VK} {E : XK} (h : S4 f vs H Q E) : vs.length = 4 := h.use (P := fun vs => vs.length = 4) fun _ _ _ _ _ => rfl
theorem S5.len {f} {vs : List V} {H : Hp} {Q : VK} {E : XK} (h : S5 f vs H Q E) : vs.length = 5 := h.use (P := fun vs => vs.length = 5) fun _ _ _ _ _ _ => rfl
theorem S6.len {f} {vs : List V} {H : Hp} {Q : VK} {E : XK} (h : S6 f vs H Q E) : vs.length = 6 := h.use (P := fun vs => vs.length = 6) fun _ _ _ _ _ _ _ => rfl
/-! ### what a caller takes of a def, a method, a class -/
structure GFn (P : Program) (w : World) (K : PySem.W.Frag) (mg : Str → Option Value) (base : Heap) (CX : CXT) (x : Str) (k : Nat) (ps : List Str) (sp : Sp) : Prop where
  f : ∃ f fd, FnOk P w K mg base CX k f fd ps sp ∧ Binds K fd ps [] ∧ PySem.W.keepIn K (.ref f) = true ∧ mg x = some (.ref f)
structure GMt (P : Program) (w : World) (K : PySem.W.Frag) (mg : Str → Option Value) (base : Heap) (CX : CXT) (C : Addr) (m : Str) (k : Nat) (ps : List Str) (sp : Sp) : Prop where
  cl : Cls K C
  f : ∃ f fd, FnOk P w K mg base CX k f fd ps sp ∧ Binds K fd ps [] ∧ Meth K C m f
structure GMk (P : Program) (w : World) (K : PySem.W.Frag) (mg : Str → Option Value) (base : Heap) (CX : CXT) (x : Str) (C : Addr) (k : Nat) (ps : List Str) (sp : Sp) : Prop where
  f : ∃ f fd, FnOk P w K mg base CX k f fd ps sp ∧ Binds K fd ps [] ∧ Mk K C f ∧ mg x = some (.ref C)
def uCall (sp : Sp) (E : XK) (t : TA) : TE := fun σ H Q => t σ H fun vs H1 => sp vs H1 Q E
def uMeth (C : Addr) (m : Str) (sp : Sp) (E : XK) (ta : TE) (t : TA) : TE := fun σ H Q => ta σ H fun x H1 => ∃ a dx fs, x = .ref a ∧ H1 a = some (.ins C dx fs) ∧ fs.lookup m = none ∧ t σ H1 fun vs H2 => sp (x :: vs) H2 Q E
def uMake (C : Addr) (sp : Sp) (E : XK) (t : TA) : TE := fun σ H Q => t σ H fun vs H1 => ∀ x dx, H1 x = none → H1 dx = none → dx ≠ x →
  sp (.ref x :: vs) (upd (upd H1 dx (.own x)) x (.ins C dx [])) (fun v H2 => v = .non ∧ Q (.ref x) H2) E
section
variable {X : Cx} {CX : CXT} {k j : Nat} {C : Addr} {ps : List Str} {sp : Sp} {E : XK} {x m : Str} {p pos apos : Pos} {e o : Expr} {es : List Expr} {ta : TE} {t : TA}
theorem call_nil (t : TE) (s : Sp) (E : XK) (ta : TA) (h : t = tCall s [] E ta) : t = uCall s E ta := by
  rw [h]
  unfold tCall uCall
  funext σ H Q
  simp only [List.append_nil]
theorem pe_fn (G : GFn X.prog X.w X.K X.mg X.base CX x k ps sp) (hr : Room k X.A) (hx : Passes CX X E) (ha : PA X (e :: es) t) (hg : Gl X x := by rfl) (hdb : (x == ("__debug__" : Str)) = false := by decide)
    (he : starEach (e :: es) X.env = (false, eval e X.env) :: starEach es X.env := by rfl) (hpl : (backTo pos (starEach es X.env)).any (·.1) = false := by rfl) : PE X (.Call (.Name x p) (e :: es) [] pos) (uCall sp E t) := by
  obtain ⟨f, fd, F, B, kp, gl⟩ := G.f
  rw [← call_nil _ sp E t rfl]
  exact pe_call F hr hg gl kp B .nil hx ha hdb he hpl
theorem pe_fn0 (G : GFn X.prog X.w X.K X.mg X.base CX x k ps sp) (hr : Room k X.A) (hx : Passes CX X E) (hg : Gl X x := by rfl) (hdb : (x == ("__debug__" : Str)) = false := by decide) : PE X (.Call (.Name x p) [] [] pos) (uCall sp E tNil) := by
  obtain ⟨f, fd, F, B, kp, gl⟩ := G.f
  rw [← call_nil _ sp E tNil rfl]
  exact pe_call0 F hr hg gl kp B .nil hx hdb
theorem meth_nil (C : Addr) (m : Str) (sp : Sp) (E : XK) (ta : TE) (t : TA) : tMeth C m sp [] E ta t = uMeth C m sp E ta t := by
  unfold tMeth uMeth
  simp only [List.append_nil]
theorem make_nil (C : Addr) (sp : Sp) (E : XK) (t : TA) : tMake C sp [] E t = uMake C sp E t := by
  unfold tMake uMake
  simp only [List.append_nil]
theorem pe_mt {pl : Sem Bool} (G : GMt X.prog X.w X.K X.mg X.base CX C m k ps sp) (hr : Room k X.A) (hx : Passes CX X E) (he : PE X o ta) (ha : PA X (e :: es) t)
    (hst : starEach (e :: es) X.env = (false, eval e X.env) :: starEach es X.env := by rfl) (hpl : (backTo pos (starEach es X.env)).any (·.1) = false := by rfl)
    (ht : eval (.Call (.Attribute o m apos) (e :: es) [] pos) X.env = (do
      let ov ← eval o X.env
      standAt apos.atName
      let (f, first) ← holding [ov] (getMethod ov m pl)
      callWith pos f first (backTo pos (starEach (e :: es) X.env)) (backToKw pos (keywordEach [] X.env))) := by rfl) : PE X (.Call (.Attribute o m apos) (e :: es) [] pos) (uMeth C m sp E ta t) := by
  obtain ⟨f, fd, F, B, M⟩ := G.f
  rw [← meth_nil]
  exact pe_meth he G.cl M F hr B .nil hx ha hst hpl ht
theorem pe_mt0 {pl : Sem Bool} (G : GMt X.prog X.w X.K X.mg X.base CX C m k ps sp) (hr : Room k X.A) (hx : Passes CX X E) (he : PE X o ta)
    (ht : eval (.Call (.Attribute o m apos) [] [] pos) X.env = (do
      let ov ← eval o X.env
      standAt apos.atName
      let (f, first) ← holding [ov] (getMethod ov m pl)
      callWith pos f first (backTo pos (starEach [] X.env)) (backToKw pos (keywordEach [] X.env))) := by rfl) : PE X (.Call (.Attribute o m apos) [] [] pos) (uMeth C m sp E ta tNil) := by
  obtain ⟨f, fd, F, B, M⟩ := G.f
  rw [← meth_nil]
  exact pe_meth0 he G.cl M F hr B .nil hx ht
theorem pe_mk (G : GMk X.prog X.w X.K X.mg X.base CX x C k ps sp) (hr : Room (k + 1) X.A) (hx : Passes CX X E) (ha : PA X (e :: es) t) (hg : Gl X x := by rfl) (hdb : (x == ("__debug__" : Str)) = false := by decide)
    (he : starEach (e :: es) X.env = (false, eval e X.env) :: starEach es X.env := by rfl) (hpl : (backTo pos (starEach es X.env)).any (·.1) = false := by rfl) : PE X (.Call (.Name x p) (e :: es) [] pos) (uMake C sp E t) := by
  obtain ⟨f, fd, F, B, M, gl⟩ := G.f
  rw [← make_nil]
  exact pe_make M F hr hg gl B .nil hx ha hdb he hpl
theorem pe_mk0 (G : GMk X.prog X.w X.K X.mg X.base CX x C k ps sp) (hr : Room (k + 1) X.A) (hx : Passes CX X E) (hg : Gl X x := by rfl) (hdb : (x == ("__debug__" : Str)) = false := by decide) : PE X (.Call (.Name x p) [] [] pos) (uMake C sp E tNil) := by
  obtain ⟨f, fd, F, B, M, gl⟩ := G.f
  rw [← make_nil]
  exact pe_make0 M F hr hg gl B .nil hx hdb
/-- o.m(..) where what is raised is wished for at the slots -/
def uMethS (C : Addr) (m : Str) (sp : Sp) (E : L2.St → XK) (ta : TE) (t : TA) : TE := fun σ H Q => ta σ H fun x H1 => ∃ a dx fs, x = .ref a ∧ H1 a = some (.ins C dx fs) ∧ fs.lookup m = none ∧ t σ H1 fun vs H2 => sp (x :: vs) H2 Q (E σ)
theorem pe_mtS {pl : Sem Bool} {E : L2.St → XK} (G : GMt X.prog X.w X.K X.mg X.base CX C m k ps sp) (hr : Room k X.A) (hx : ∀ σ, PassesAt CX X σ (E σ)) (he : PE X o ta) (ha : PA X (e :: es) t)
    (hst : starEach (e :: es) X.env = (false, eval e X.env) :: starEach es X.env := by rfl) (hpl : (backTo pos (starEach es X.env)).any (·.1) = false := by rfl)
    (ht : eval (.Call (.Attribute o m apos) (e :: es) [] pos) X.env = (do
      let ov ← eval o X.env
      standAt apos.atName
      let (f, first) ← holding [ov] (getMethod ov m pl)
      callWith pos f first (backTo pos (starEach (e :: es) X.env)) (backToKw pos (keywordEach [] X.env))) := by rfl) : PE X (.Call (.Attribute o m apos) (e :: es) [] pos) (uMethS C m sp E ta t) := by
  obtain ⟨f, fd, F, B, M⟩ := G.f
  refine ⟨fun pins s σ H Q I h => ?_⟩
  refine PySem.W.methodCall_KW (pl := pl) (thn (he.run pins s σ H _ I h) fun u s1 ⟨x, H1, I1, rx, a, dx, fs, ex, ea, l, q⟩ => ?_) ht
  subst ex
  obtain rfl : u = Value.ref a := rx
  refine getmeth_ok I1 ea G.cl M l ?_
  refine PySem.W.callWith_K (first := [.ref a]) (h₀ := X.base) I.ok.mod.kin M.kp (thn (ha.run pos pins s1 σ H1 _ I1 q) fun us s2 ⟨vs, H2, I2, r, q2⟩ => ⟨I2.kIn, ?_⟩) hst hpl
  exact run_fnS (us := .ref a :: us) (vs := .ref a :: vs) F hr B (hx σ) I2 (.cons rfl r) q2
end
section
variable {X : Cx} {C : Addr}
/-- X() -/
theorem pmk_own0 {x : Str} {p pos : Pos} (q : PySem.W.excIn X.K C He.veBase "ValueError.__new__" = true ∧ PySem.W.keepIn X.K (.ref C) = true ∧ PySem.W.subIn X.K (.ref C) (.type "BaseException") = some true ∧ PySem.W.typeIn X.K (.ref C) = some (.type "type")) (gC : X.mg x = some (.ref C)) (hg : Gl X x := by rfl)
    (hdb : (x == ("__debug__" : Str)) = false := by decide) : PMk X (.Call (.Name x p) [] [] pos) (fun _ H Q => Q (.ref C) none H) := by
  obtain ⟨q, kC, b1, b2⟩ := q
  intro pins s σ H Q I h
  refine wpAny_Call_Name_kw (ld_glob I hg gC ?_ hdb)
  refine PySem.W.callWith_K0 I.kIn kC ?_
  show wpAny _ _ (call (.ref C) []) _ _ _
  obtain ⟨bm, N, nm, qn, bs, hdct, sn, sub, ab, col, dd, k0, k1, k2, k3, k5, mN, hC, hN, hni, T⟩ := exc_obj I.kIn q
  refine wpAny_call_exc_subT PySem.F.excBase_ValueError T hC hN hni (fun h' e hm => ?_) (by show 0 ≤ sizeLine; exact Nat.zero_le _)
  exact mk_of I hm (raises_own b1 b2) h (I.hok.gone hm.new)
def tTryO (K : PySem.W.Frag) (c : Value) (tb : WX → TS) (ts : Addr → Value → Option Addr → TS) : TS := fun D σ H => tb (wOnly K c ts (fun _ _ _ _ => False) D) D σ H
end
section
variable {X : Cx}
/-- zip of a list and a tuple: the pairs, both as they stand at each turn -/
def ItzLT (K : PySem.W.Frag) (a b : Addr) : It where
  go := fun i G => ∃ xs ys x y, (SqL K G a xs ∧ xs[i]? = some x) ∧ SqT K G b ys ∧ ys[i]? = some y
  yld := fun i G v G' => ∃ c x y, (v = .ref c ∧ G c = none ∧ G' = upd G c (.tup [x, y])) ∧ (∀ xs, SqL K G a xs → xs[i]? = some x) ∧ ∀ ys, SqT K G b ys → ys[i]? = some y
  stop := fun i G => ∃ xs ys, (SqL K G a xs ∧ i ≤ xs.length) ∧ (SqT K G b ys ∧ i ≤ ys.length) ∧ (i = xs.length ∨ i = ys.length)
def iZipLT (K : PySem.W.Frag) (ta : TA) : TI := fun σ G R => ta σ G fun vs G1 => ∃ a b xs ys, vs = [.ref a, .ref b] ∧ SqL K G1 a xs ∧ SqT K G1 b ys ∧ R (ItzLT K a b) G1
/-- the five cells of such a zip, at turn i -/
def ZLT (a b N : Addr) (i : Nat) (h : Heap) : Prop :=
  (IsZip h (N + 4) (N + 2) (N + 3) .none ∧ IsTupOf2 h (N + 2) (.ref N) (.ref (N + 1)) ∧ ∃ x y, IsTupOf2 h (N + 3) x y) ∧ h.IsListIter N a i ∧ h.IsTupleIter (N + 1) b i
def zcells (N : Addr) : List Addr := [N + 4, N + 2, N + 3, N, N + 1]
theorem zneq {x y : Nat} (h : x ≠ y) : (x : Addr) ≠ y := h
theorem zsep {a b N : Nat} (ha : a < N) (hb : b < N) : ZipSep2 (N + 4) (N + 2) (N + 3) N (N + 1) [N, a] [N + 1, b] where
  TIz := zneq (by omega)
  TOz := zneq (by omega)
  TITO := zneq (by omega)
  TIi1 := zneq (by omega)
  mem1 := List.mem_cons_self
  zf1 := by rw [List.mem_cons, List.mem_singleton]; exact fun h => h.elim (zneq (by omega)) (zneq (by omega))
  Tf1 := by rw [List.mem_cons, List.mem_singleton]; exact fun h => h.elim (zneq (by omega)) (zneq (by omega))
  TIi2 := zneq (by omega)
  mem2 := List.mem_cons_self
  zf2 := by rw [List.mem_cons, List.mem_singleton]; exact fun h => h.elim (zneq (by omega)) (zneq (by omega))
  Tf2 := by rw [List.mem_cons, List.mem_singleton]; exact fun h => h.elim (zneq (by omega)) (zneq (by omega))
  sep1_2 := by rw [List.mem_cons, List.mem_singleton]; exact fun h => h.elim (zneq (by omega)) (zneq (by omega))
  sep2_1 := by rw [List.mem_cons, List.mem_singleton]; exact fun h => h.elim (zneq (by omega)) (zneq (by omega))
theorem zcell {N c : Addr} (h : c ∈ zcells N) : c = N + 4 ∨ c = N + 2 ∨ c = N + 3 ∨ c = N ∨ c = N + 1 := by simpa [zcells] using h
theorem zlive {a b N : Addr} {i : Nat} {h : Heap} (st : ZLT a b N i h) {c : Addr} (hc : c ∈ zcells N) : ∃ o, h.get? c = some o ∧ ∀ v, o.data ≠ .cell v := by
  obtain ⟨⟨a1, a2, x, y, a3⟩, ⟨o1, g1, _, d1⟩, o2, g2, _, d2⟩ := st
  rcases zcell hc with rfl | rfl | rfl | rfl | rfl
  · exact ⟨_, a1, by intro v z; cases z⟩
  · exact ⟨_, a2, by intro v z; cases z⟩
  · exact ⟨_, a3, by intro v z; cases z⟩
  · exact ⟨_, g1, by intro v z; rw [z] at d1; cases d1⟩
  · exact ⟨_, g2, by intro v z; rw [z] at d2; cases d2⟩
theorem zkeep {a b N : Addr} {i : Nat} {h h' : Heap} (st : ZLT a b N i h) (k : ∀ c ∈ zcells N, ∀ o, h.get? c = some o → h'.get? c = some o) : ZLT a b N i h' := by
  obtain ⟨⟨a1, a2, x, y, a3⟩, b1, b2⟩ := st
  exact ⟨⟨k _ (by simp [zcells]) _ a1, k _ (by simp [zcells]) _ a2, x, y, k _ (by simp [zcells]) _ a3⟩, b1.at (k _ (by simp [zcells])), b2.at (k _ (by simp [zcells]))⟩
theorem turn_zipLT {P : Program} {w : World} {K : PySem.W.Frag} {tp : Pos} {es : List Expr} {n : Nat} {a b N : Nat} (ha : a < N) (hb : b < N) : Turn P w K (.Tuple es n tp) (ItzLT K a b) (zcells N) (N + 4) (ZLT a b N) where
  mem := by simp [zcells]
  obj := fun i h st c hc => zlive st hc
  keep := fun i h h' st k => zkeep st k
  self := fun A i s Q E st q => wpAny_pyIter_zip st.1.1 q
  item := by
    rintro X rfl rfl rfl calm i pins s σ G E I free st ⟨xs, ys, x, y, ⟨sx, ix⟩, sy, iy⟩
    obtain ⟨us, rx, px, _⟩ := I.list sx
    obtain ⟨ws, ry, py, _⟩ := I.tuple sy
    have lx := (List.getElem?_eq_some_iff.mp ix).1
    have ly := (List.getElem?_eq_some_iff.mp iy).1
    have lx2 := rx.length
    have ly2 := ry.length
    have live := fun c hc => zlive st (c := c) hc
    obtain ⟨⟨z1, z2, u0, w0, z3⟩, t1, t2⟩ := st
    have hd : X.A.in1.handled = none := I.ok.hd calm
    refine wpAny_pyNext_zipD2_item (zsep ha hb) (Draws.list hd N a (zneq (by omega)) us.toArray) (Draws.tuple hd (N + 1) b (zneq (by omega)) ws.toArray) z1 z2 z3 ⟨t1, px.isList⟩ ⟨t2, py⟩ (by simp; omega) (by simp; omega) fun u v h' tk hu hv y1 y2 y3 y4 y5 _ kp => ?_
    obtain ⟨u', hu', ru⟩ := rx.get ix
    obtain ⟨v', hv', rv⟩ := ry.get iy
    have eu : u' = u := by
      have : us[i]? = some u := by simpa using hu
      rw [hu'] at this
      exact Option.some.inj this
    have ev : v' = v := by
      have : ws[i]? = some v := by simpa using hv
      rw [hv'] at this
      exact Option.some.inj this
    subst eu ev
    have small : ∀ c, c ∈ zcells N → c < s.heap.objs.size := fun c hc => by
      obtain ⟨o, ho, _⟩ := live c hc
      exact Heap.lt_size ho
    refine ⟨_, rfl, wpAny_letOwnedTupleGo_zip (s := { s with heap := h', toks := tk }) y1 fun h2 z' sb => ?_⟩
    have pair : h2.get? s.heap.objs.size = some { cls := .type "tuple", data := .seq #[u', v'] } := (sb.2 _ (Nat.ne_of_gt (small _ (by simp [zcells])))).trans y5
    have ok : ObjOk X.prog X.w (upd G s.heap.objs.size (.tup [x, y])) h2 s.heap.objs.size (.tup [x, y]) := ⟨show 2 ≤ sizeLine by decide, [u', v'], .cons ru (.cons rv .nil), ⟨_, pair, rfl, _, rfl⟩⟩
    have kp2 : ∀ c o, c ∉ zcells N → s.heap.get? c = some o → h2.get? c = some o := fun c o hn ho => by
      simp only [zcells, List.mem_cons, List.not_mem_nil, or_false, not_or] at hn
      exact (sb.2 _ hn.1).trans (kp c o hn.1 hn.2.2.1 hn.2.2.2.1 hn.2.2.2.2 ho)
    refine ⟨.ref s.heap.objs.size, _, I.turnedNew (t' := tk) (ch := zcells N) kp2 free (Nat.le_refl _) ok, rfl, ⟨_, x, y, ⟨rfl, I.hok.fresh (Nat.le_refl _), rfl⟩, fun l hl => by rw [I.list_inj hl sx]; exact ix, fun l hl => by rw [I.tuple_inj hl sy]; exact iy⟩, ?_, fun c hc => ?_⟩
    · have far : ∀ {c o}, c ≠ (N : Nat) + 4 → h'.get? c = some o → h2.get? c = some o := fun hn ho => (sb.2 _ hn).trans ho
      refine ⟨⟨z', far (zneq (by omega)) ?_, u', v', far (zneq (by omega)) y2⟩, y3.1.at fun o => far (zneq (by omega)), y4.1.at fun o => far (zneq (by omega))⟩
      exact kp _ _ (zneq (by omega)) (zneq (by omega)) (zneq (by omega)) (zneq (by omega)) z2
    · rw [upd_ne (Nat.ne_of_lt (small c hc))]
      exact (free c hc).1
  done := by
    rintro X rfl rfl rfl calm i pins s σ G E I free st ⟨xs, ys, ⟨sx, ix⟩, ⟨sy, iy⟩, hend⟩
    obtain ⟨us, rx, px, _⟩ := I.list sx
    obtain ⟨ws, ry, py, _⟩ := I.tuple sy
    have lx2 := rx.length
    have ly2 := ry.length
    obtain ⟨⟨z1, z2, u0, w0, z3⟩, t1, t2⟩ := st
    have hd : X.A.in1.handled = none := I.ok.hd calm
    refine wpAny_pyNext_zipD2_end (zsep ha hb) (Draws.list hd N a (zneq (by omega)) us.toArray) (Draws.tuple hd (N + 1) b (zneq (by omega)) ws.toArray) z1 z2 z3 ⟨t1, px.isList⟩ ⟨t2, py⟩ (by simp; omega) (by simp; omega) (by simp; omega) fun h' tk kp => ?_
    refine ⟨rfl, I.turnedL (t' := tk) (ch := zcells N) (fun c o hn ho => ?_) free⟩
    simp only [zcells, List.mem_cons, List.not_mem_nil, or_false, not_or] at hn
    exact kp c o hn.1 hn.2.2.1 hn.2.2.2.1 hn.2.2.2.2 ho
theorem pi_zipLT {e e2 : Expr} {ta : TA} {p pos tpos : Pos} {elts : List Expr} {kk : Nat} (hg : Gl X "zip") (hm : X.mg "zip" = none) (ha : PA X [e, e2] ta)
    (st : starEach [e, e2] X.env = (false, eval e X.env) :: starEach [e2] X.env := by rfl) (pl : (backTo pos (starEach [e2] X.env)).any (·.1) = false := by rfl) : PI X (.Tuple elts kk tpos) (.Call (.Name "zip" p) [e, e2] [] pos) (iZipLT X.K ta) := by
  constructor
  intro pins s σ G R I h
  refine Call_ (ld_blt I hg hm PyProof.Rows.boot_zip (PyProof.Rows.callWith_type1 (thn (ha.run pos pins s σ G _ I h) ?_) st pl))
  rintro us s1 ⟨vs, G1, I1, r1, a, b, xs, ys, rfl, sx, sy, q⟩
  obtain ⟨u1, u2, rfl, ra, rb⟩ := vals2 r1
  obtain rfl : u1 = Value.ref a := ra
  obtain rfl : u2 = Value.ref b := rb
  obtain ⟨vx, rx, px, _⟩ := I1.list sx
  obtain ⟨vy, ry, py, _⟩ := I1.tuple sy
  obtain ⟨ob, hob, _⟩ := id py
  have la : a < s1.heap.objs.size := by
    obtain ⟨o, ho, _⟩ := px.isList
    exact Heap.lt_size ho
  have lb : b < s1.heap.objs.size := Heap.lt_size hob
  refine zip_begins2 (begins_list a vx.toArray) (begins_tuple b vy.toArray) px.isList py fun h' z1 z2 z3 g1 g2 _ kp => wpAny_pyIter_zip z1 ?_
  have I2 : Inv X pins σ G1 { s1 with heap := h' } := I1.kept (t' := s1.toks) kp
  refine ⟨s1.heap.objs.size + 4, zcells s1.heap.objs.size, _, _, G1, rfl, I2, turn_zipLT la lb, ⟨⟨z1, z2, _, _, z3⟩, ⟨_, g1, rfl, rfl⟩, ⟨_, g2, rfl, rfl⟩⟩, fun c hc => ?_, q⟩
  have hle : s1.heap.objs.size ≤ c := by
    rcases zcell hc with rfl | rfl | rfl | rfl | rfl
    · exact Nat.le_add_right _ _
    · exact Nat.le_add_right _ _
    · exact Nat.le_add_right _ _
    · exact Nat.le_refl _
    · exact Nat.le_add_right _ _
  exact I1.fpOk hle (I1.hok.fresh hle)
def rSortedD : List V → Hp → VK → Prop := fun xs H Q => ∃ (a : Addr) (kvs : List (Key × V)) (ks : List Int), xs = [.ref a] ∧ Rd H a (.dK kvs) ∧ kvs.map (·.1) = ks.map Sum.inl ∧
  ∀ (ns : List Int) (p : Addr), ns.Perm ks → ns.Pairwise (· ≤ ·) → H p = none → Q (.ref p) (upd H p (.lst (ns.map V.int)))
theorem c_sortedD (hcalm : X.calm = true) : CallR X (.builtin "sorted") rSortedD := by
  rintro pins s σ G vs us Q I r ⟨a, kvs, ks, rfl, hd, keys, q⟩
  obtain ⟨u, rfl, ru⟩ := vals1 r
  obtain rfl : u = Value.ref a := ru
  obtain ⟨small, low, es, rel, at0⟩ := dk_rd I.hok hd
  obtain ⟨ep, at1⟩ := at0.dictAt
  have k2 : es.map (·.1) = ks.map Sum.inl := by rw [← keys]; exact rel.keys.symm
  have n2 : es.length = ks.length := by simpa using congrArg List.length k2
  have n3 : kvs.length = ks.length := by simpa using congrArg List.length keys
  refine Calls.call_function_entry PyProof.Rows.kind_sorted PyProof.Rows.plain_sorted PyProof.Rows.entry_sorted (PyProof.Rows.args_sorted1 _) ?_
  unfold Builtin.«sorted»
  refine wpAny_bind (m := checkCount "sorted" 1 1 _) (wpAny_pure (wpAny_bind (PySem.W.kdu_collect (A := X.A.in1) (PySem.W.kdl_dict (knd := mixKind X.prog X.w) (kvs := es) (ep := ep) low) (I.ok.hd hcalm) at1 (by omega) ?_)))
  intro h1 tk acc kp ⟨c1, c2⟩
  have an : acc.toList.length = ks.length := by rw [Array.length_toList, c1, n2]
  have hints : IntsAre acc.toList ks := by
    refine ints_each an fun j v hv => ?_
    obtain ⟨k, x, g1, g2⟩ := c2 j v (by simpa using hv)
    have g3 : (ks.map Sum.inl : List Key)[j]? = some k := by rw [← k2, List.getElem?_map, g1]; rfl
    rw [List.getElem?_map] at g3
    obtain ⟨y, hy, rfl⟩ := Option.map_eq_some_iff.mp g3
    rcases keyIs_shape (show keyIs (Sum.inl y) v = true from g2) with ⟨i, t, ek, ev⟩ | ⟨z, t, ek, ev⟩
    · obtain rfl : y = i := Sum.inl.inj ek
      exact ⟨y, t, hy, ev⟩
    · exact nomatch ek
  have I1 : Inv X pins σ G { s with heap := h1, toks := tk } := I.kept kp
  have fits : acc.toList.length ≤ sizeLine := by omega
  refine wpAny_bind (wpAny_newList ?_ fits)
  have lst : (h1.push (seqObj "list" acc.toList.toArray 0)).get? h1.objs.size = some (seqObj "list" acc.toList.toArray 0) := Heap.get?_push_size _ rfl
  show wpAny _ _ _ _ _ { s with heap := h1.push (seqObj "list" acc.toList.toArray 0), toks := tk }
  refine wpAny_bind (wpAny_holding (wpAny_call_entry PyProof.Rows.slot_list_sort ⟨_, lst, rfl⟩ PyProof.Rows.entry_list_sort
    (SrtO.list_sort_ord (s := { s with heap := h1.push (seqObj "list" acc.toList.toArray 0), toks := tk }) SrtO.swo_int lst fits (fun two => SrtO.ints_sortable hints two) ?_) (PyProof.Rows.args_list_sort _)))
  intro out o1 o2
  obtain ⟨p1, p2, p3⟩ := SrtO.ints_out hints o1 o2
  obtain ⟨e', at2⟩ := PyProof.Rows.sortedHeap_at (vs := acc.toList) (out := out.toArray) lst
  have fit2 : ((out.map SrtO.iv).map V.int).length ≤ sizeLine := by
    rw [List.length_map, p2.length_eq]
    omega
  refine ⟨_, rfl, wpAny_pure ⟨_, rfl, .ref h1.objs.size, upd G h1.objs.size (.lst ((out.map SrtO.iv).map V.int)), I1.laid (t' := tk) (fun b o hb => ?_) (Nat.le_refl _) ⟨fit2, out, e', vals_of_ints p1, at2⟩, rfl, q _ _ p2 p3 (I1.hok.fresh (Nat.le_refl _))⟩⟩
  have lt : b < h1.objs.size := Heap.lt_size hb
  rw [PyProof.Rows.sortedHeap_old (Nat.ne_of_lt lt) (by rw [size_push']; exact Nat.lt_succ_of_lt lt)]
  exact Heap.get?_push_of_some _ hb
end
end U

/-! steps as equations -/
namespace U
open PySem L2
section
variable {K : PySem.W.Frag} {σ : L2.St} {H : Hp} {Q : VK} {ta tb tc te : TE} {t u : TT} {r r' : R2} {D : Ends} {f m : Str} {sp : Sp} {E : XK} {C : Addr} {i : Nat} {v : V}
@[simp] theorem a_c : tC v σ H Q = Q v H := rfl
@[simp] theorem a_op : tOp r ta tb σ H Q = ta σ H fun x H1 => tb σ H1 fun y H2 => r x y H2 Q := rfl
@[simp] theorem a_un {r : V → Hp → VK → Prop} : tUn r ta σ H Q = ta σ H fun x H1 => r x H1 Q := rfl
@[simp] theorem a_cb {r : List V → Hp → VK → Prop} {t : TA} : tCB r t σ H Q = t σ H fun vs H1 => r vs H1 Q := rfl
@[simp] theorem a_nil {Q : List V → Hp → Prop} : tNil σ H Q = Q [] H := rfl
@[simp] theorem a_cons {t : TA} {Q : List V → Hp → Prop} : tCons ta t σ H Q = ta σ H fun x H1 => t σ H1 fun xs H2 => Q (x :: xs) H2 := rfl
@[simp] theorem a_call {t : TA} : uCall sp E t σ H Q = t σ H fun vs H1 => sp vs H1 Q E := rfl
@[simp] theorem a_tup {t : TA} : tTup t σ H Q = t σ H fun xs H1 => xs.length ≤ sizeLine ∧ ∀ p, H1 p = none → Q (.ref p) (upd H1 p (.tup xs)) := rfl
@[simp] theorem a_lst {t : TA} : tLst t σ H Q = t σ H fun xs H1 => xs.length ≤ sizeLine ∧ ∀ p, H1 p = none → Q (.ref p) (upd H1 p (.lst xs)) := rfl
@[simp] theorem a_andV : tAndV ta tb σ H Q = ta σ H fun x H1 => ∃ c, x = .bl c ∧ if c = true then tb σ H1 Q else Q (.bl false) H1 := rfl
@[simp] theorem a_orV : tOrV ta tb σ H Q = ta σ H fun x H1 => ∃ c, x = .bl c ∧ if c = true then Q (.bl true) H1 else tb σ H1 Q := rfl
@[simp] theorem a_notV : tNotV ta σ H Q = ta σ H fun x H1 => ∃ c, x = .bl c ∧ Q (.bl (!c)) H1 := rfl
@[simp] theorem a_if : tIf t ta tb σ H Q = t σ H fun c H1 => if c = true then ta σ H1 Q else tb σ H1 Q := rfl
variable {B : Bool → Hp → Prop}
@[simp] theorem a_tru : tTru K ta σ H B = ta σ H fun x H1 => uTru K x H1 B := rfl
@[simp] theorem a_test : tTest ta σ H B = ta σ H fun x H1 => ∃ k, x = .bl k ∧ B k H1 := rfl
@[simp] theorem a_and : tAnd t u σ H B = t σ H fun c H1 => if c = true then u σ H1 B else B false H1 := rfl
@[simp] theorem a_or : tOr t u σ H B = t σ H fun c H1 => if c = true then B true H1 else u σ H1 B := rfl
@[simp] theorem a_not : tNot t σ H B = t σ H fun c H1 => B (!c) H1 := rfl
@[simp] theorem a_yes : tYes σ H B = B true H := rfl
variable {tu tw : TS}
@[simp] theorem a_seq : tSeq tu tw D σ H = tu { D with nx := tw D } σ H := rfl
@[simp] theorem a_next : tNext D σ H = D.nx σ H := rfl
@[simp] theorem a_ret : tRet ta D σ H = ta σ H D.rt := rfl
@[simp] theorem a_drop : tDrop ta D σ H = ta σ H fun _ H1 => D.nx σ H1 := rfl
@[simp] theorem a_ifS : tIfS t tu tw D σ H = t σ H fun b H1 => if b = true then tu D σ H1 else tw D σ H1 := rfl
@[simp] theorem a_asg {g : TG} : tAsg ta g D σ H = ta σ H fun x H1 => g x σ H1 D.nx := rfl
@[simp] theorem a_name {Q : L2.St → Hp → Prop} : gName i v σ H Q = Q (σ.set i (some v)) H := rfl
@[simp] theorem a_never : tNever D σ H = False := rfl
/-! operators on values -/
@[simp] theorem o_add {a b : Int} : uAdd K (.int a) (.int b) H Q = Q (.int (a + b)) H := rfl
@[simp] theorem o_sub {a b : Int} : uSub (.int a) (.int b) H Q = Q (.int (a - b)) H := rfl
@[simp] theorem o_mul {a b : Int} : uMul K (.int a) (.int b) H Q = (CMul a b ∧ Q (.int (a * b)) H) := rfl
@[simp] theorem o_fdiv {a b : Int} : uFdiv (.int a) (.int b) H Q = (CDiv a b ∧ Q (.int (a / b)) H) := rfl
@[simp] theorem o_mod {a b : Int} : uMod (.int a) (.int b) H Q = (0 < b ∧ Q (.int (a % b)) H) := rfl
@[simp] theorem o_pow {a b : Int} : uPow (.int a) (.int b) H Q = (CPow a b ∧ Q (.int (a ^ b.toNat)) H) := rfl
@[simp] theorem o_lt {a b : Int} : uLt K (.int a) (.int b) H Q = Q (.bl (decide (a < b))) H := rfl
@[simp] theorem o_le {a b : Int} : uLe (.int a) (.int b) H Q = Q (.bl (decide (a ≤ b))) H := rfl
@[simp] theorem o_gt {a b : Int} : uGt (.int a) (.int b) H Q = Q (.bl (decide (b < a))) H := rfl
@[simp] theorem o_ge {a b : Int} : uGe (.int a) (.int b) H Q = Q (.bl (decide (b ≤ a))) H := rfl
@[simp] theorem o_eq {a b : Int} : uEq K (.int a) (.int b) H Q = Q (.bl (decide (a = b))) H := rfl
@[simp] theorem o_ne {a b : Int} : uNe K (.int a) (.int b) H Q = Q (.bl (!decide (a = b))) H := rfl
@[simp] theorem o_eqb {a b : Bool} : uEq K (.bl a) (.bl b) H Q = Q (.bl (decide (a = b))) H := rfl
@[simp] theorem o_neb {a b : Bool} : uNe K (.bl a) (.bl b) H Q = Q (.bl (!decide (a = b))) H := rfl
@[simp] theorem o_eqs {a b : Str} : uEq K (.str a) (.str b) H Q = Q (.bl (decide (a = b))) H := rfl
@[simp] theorem o_nes {a b : Str} : uNe K (.str a) (.str b) H Q = Q (.bl (!decide (a = b))) H := rfl
@[simp] theorem o_isN {x y : V} : uIsN x y H Q = (y = .non ∧ Q (.bl (decide (x = .non))) H) := rfl
@[simp] theorem o_notN {x y : V} : uNotN x y H Q = (y = .non ∧ Q (.bl (!decide (x = .non))) H) := rfl
@[simp] theorem o_trub {b : Bool} : uTru K (.bl b) H B = B b H := rfl
end
/-! ### heaps -/
@[simp] theorem rk_lst (xs : List V) : rk (some (.lst xs)) = .l xs := rfl
@[simp] theorem rk_tup (xs : List V) : rk (some (.tup xs)) = .t xs := rfl
@[simp] theorem rk_dK (xs : List (Key × V)) : rk (some (.dK xs)) = .d xs := rfl
@[simp] theorem rk_flst (o : Obj) (xs : List V) : rk (some (.frz o (.lst xs))) = .l xs := rfl
@[simp] theorem rk_ftup (o : Obj) (xs : List V) : rk (some (.frz o (.tup xs))) = .t xs := rfl
@[simp] theorem rk_fdK (o : Obj) (xs : List (Key × V)) : rk (some (.frz o (.dK xs))) = .d xs := rfl
section
variable {K : PySem.W.Frag} {σ : L2.St} {H : Hp} {Q : VK} {ta : TE} {f : Str} {D : Ends}
/-- o.f by values -/
def kFld (K : PySem.W.Frag) (f : Str) (x : V) (H : Hp) (Q : VK) : Prop := match x with
  | .ref a => (match H a with
    | some (.ins C _ fs) => (Cls K C ∧ NoAttr K C f) ∧ (match fs.lookup f with
      | some v => Q v H
      | none => False)
    | _ => False)
  | _ => False
theorem kFld_ok {x : V} : kFld K f x H Q → ∃ a C dx fs v, x = .ref a ∧ H a = some (.ins C dx fs) ∧ Cls K C ∧ NoAttr K C f ∧ fs.lookup f = some v ∧ Q v H := by
  intro h
  unfold kFld at h
  split at h
  · rename_i a
    split at h
    · rename_i C dx fs e
      obtain ⟨⟨h1, h2⟩, h⟩ := h
      split at h
      · rename_i v l
        exact ⟨a, C, dx, fs, v, rfl, e, h1, h2, l, h⟩
      · exact h.elim
    · exact h.elim
  · exact h.elim
theorem kFld_of {x : V} : (∃ a C dx fs v, x = .ref a ∧ H a = some (.ins C dx fs) ∧ Cls K C ∧ NoAttr K C f ∧ fs.lookup f = some v ∧ Q v H) → kFld K f x H Q := by
  rintro ⟨a, C, dx, fs, v, rfl, e, h1, h2, l, h⟩
  unfold kFld
  simp only [e, l]
  exact ⟨⟨h1, h2⟩, h⟩
@[simp] theorem b_fld : tFld K ta f σ H Q = ta σ H fun x H1 => kFld K f x H1 Q := by
  unfold tFld
  congr 1
  funext x H1
  exact propext ⟨kFld_of, kFld_ok⟩
/-- o.f = v by values -/
def kSet (K : PySem.W.Frag) (f : Str) (x y : V) (H : Hp) (Q : Hp → Prop) : Prop := match x with
  | .ref a => (match H a with
    | some (.ins C dx fs) => (Cls K C ∧ NoAttr K C f ∧ fs.length < 1000) ∧ Q (upd H a (.ins C dx (putF f y fs)))
    | _ => False)
  | _ => False
@[simp] theorem b_sfld {ta tb : TE} : sFld K ta tb f D σ H = tb σ H fun y H1 => ta σ H1 fun x H2 => kSet K f x y H2 (D.nx σ) := by
  unfold sFld
  congr 1
  funext y H1
  congr 1
  funext x H2
  refine propext ⟨?_, fun h => ?_⟩
  · rintro ⟨a, C, dx, fs, rfl, e, h1, h2, l, h⟩
    unfold kSet
    simp only [e]
    exact ⟨⟨h1, h2, l⟩, h⟩
  · unfold kSet at h
    split at h
    · rename_i a
      split at h
      · rename_i C dx fs e
        exact ⟨a, C, dx, fs, rfl, e, h.1.1, h.1.2.1, h.1.2.2, h.2⟩
      · exact h.elim
    · exact h.elim
/-- the receiver of a method -/
def kMt (C : Addr) (m : Str) (x : V) (H : Hp) (P : Prop) : Prop := match x with
  | .ref a => (match H a with
    | some (.ins C' _ fs) => (C' = C ∧ fs.lookup m = none) ∧ P
    | _ => False)
  | _ => False
@[simp] theorem b_meth {C : Addr} {m : Str} {sp : Sp} {E : XK} {t : TA} : uMeth C m sp E ta t σ H Q = ta σ H fun x H1 => kMt C m x H1 (t σ H1 fun vs H2 => sp (x :: vs) H2 Q E) := by
  unfold uMeth
  congr 1
  funext x H1
  refine propext ⟨?_, fun h => ?_⟩
  · rintro ⟨a, dx, fs, rfl, e, l, h⟩
    unfold kMt
    simp only [e]
    exact ⟨⟨trivial, l⟩, h⟩
  · unfold kMt at h
    split at h
    · rename_i a
      split at h
      · rename_i C' dx fs e
        obtain ⟨⟨h1, l⟩, h⟩ := h
        subst h1
        exact ⟨a, dx, fs, rfl, e, l, h⟩
      · exact h.elim
    · exact h.elim
/-- a slot by its list -/
@[simp] theorem b_var {i : Nat} : tVar i σ H Q = (match σ[i]? with | some (some v) => Q v H | _ => False) := by
  unfold tVar
  refine propext ⟨?_, fun h => ?_⟩
  · rintro ⟨v, e, h⟩
    simp only [e]
    exact h
  · split at h
    · rename_i v e
      exact ⟨v, e, h⟩
    · exact h.elim
@[simp] theorem upd_ap {H : Hp} {a b : Addr} {o : HO} : upd H a o b = if b = a then some o else H b := rfl
end
/-! isinstance's answers -/
def isIntV : V → Bool | .int _ => true | _ => false
def isBlV : V → Bool | .bl _ => true | _ => false
def isStrV : V → Bool | .str _ => true | _ => false
section
variable {K : PySem.W.Frag} {H : Hp} {v : V}
@[simp] theorem isV_int : isV K H v "int" = (isIntV v || isBlV v) := by
  cases v <;> first | rfl | (rename_i a; unfold isV tyN; cases h : rk (H a) <;> simp [h, isiN, isIntV, isBlV, isStrV])
@[simp] theorem isV_bool : isV K H v "bool" = isBlV v := by
  cases v <;> first | rfl | (rename_i a; unfold isV tyN; cases h : rk (H a) <;> simp [h, isiN, isIntV, isBlV, isStrV])
@[simp] theorem isV_str : isV K H v "str" = isStrV v := by
  cases v <;> first | rfl | (rename_i a; unfold isV tyN; cases h : rk (H a) <;> simp [h, isiN, isIntV, isBlV, isStrV])
@[simp] theorem isV_tuple : isV K H v "tuple" = (match v with | .ref a => (match rk (H a) with | .t _ => true | _ => false) | _ => false) := by
  cases v <;> first | rfl | (rename_i a; unfold isV tyN; cases h : rk (H a) <;> simp [h, isiN, isIntV, isBlV, isStrV])
@[simp] theorem isV_list : isV K H v "list" = (match v with | .ref a => (match rk (H a) with | .l _ => true | _ => false) | _ => false) := by
  cases v <;> first | rfl | (rename_i a; unfold isV tyN; cases h : rk (H a) <;> simp [h, isiN, isIntV, isBlV, isStrV])
end
section
variable {K : PySem.W.Frag} {σ : L2.St} {H : Hp} {Q : VK} {f : Str} {D : Ends}
@[simp] theorem e_known_non : Known H .non = True := rfl
@[simp] theorem e_known_bl {b : Bool} : Known H (.bl b) = True := rfl
@[simp] theorem e_known_int {i : Int} : Known H (.int i) = True := rfl
@[simp] theorem e_known_str {z : Str} : Known H (.str z) = True := rfl
@[simp] theorem e_known_byt {z : Array UInt8} : Known H (.byt z) = False := rfl
@[simp] theorem e_known_flt {z : UInt64} : Known H (.flt z) = False := rfl
@[simp] theorem e_known_ty {z : String} : Known H (.ty z) = False := rfl
@[simp] theorem e_known_ref {a : Addr} : Known H (.ref a) = (rk (H a) ≠ .o) := rfl
@[simp] theorem e_isIntV_int {i : Int} : isIntV (.int i) = true := rfl
@[simp] theorem e_isIntV_non : isIntV .non = false := rfl
@[simp] theorem e_isIntV_bl {b : Bool} : isIntV (.bl b) = false := rfl
@[simp] theorem e_isIntV_str {b : Str} : isIntV (.str b) = false := rfl
@[simp] theorem e_isIntV_ref {b : Addr} : isIntV (.ref b) = false := rfl
@[simp] theorem e_isBlV_int {i : Int} : isBlV (.int i) = false := rfl
@[simp] theorem e_isBlV_non : isBlV .non = false := rfl
@[simp] theorem e_isBlV_bl {b : Bool} : isBlV (.bl b) = true := rfl
@[simp] theorem e_isBlV_str {b : Str} : isBlV (.str b) = false := rfl
@[simp] theorem e_isBlV_ref {b : Addr} : isBlV (.ref b) = false := rfl
@[simp] theorem e_isStrV_int {i : Int} : isStrV (.int i) = false := rfl
@[simp] theorem e_isStrV_non : isStrV .non = false := rfl
@[simp] theorem e_isStrV_bl {b : Bool} : isStrV (.bl b) = false := rfl
@[simp] theorem e_isStrV_str {b : Str} : isStrV (.str b) = true := rfl
@[simp] theorem e_isStrV_ref {b : Addr} : isStrV (.ref b) = false := rfl
@[simp] theorem e_isi {x : V} {T : String} : uIsi K [x, .ty T] H Q = (Known H x ∧ (T = "int" ∨ T = "bool" ∨ T = "str" ∨ T = "tuple" ∨ T = "list") ∧ Q (.bl (isV K H x T)) H) := rfl
@[simp] theorem e_len_s {z : Str} : uLen K [.str z] H Q = (z.length ≤ sizeLine ∧ Q (.int z.length) H) := rfl
def kLen (K : PySem.W.Frag) (a : Addr) (H : Hp) (Q : VK) : Rk → Prop
  | .l xs => Q (.int xs.length) H
  | .t xs => Q (.int xs.length) H
  | .d xs => Q (.int xs.length) H
  | .o => ∃ ys, (SqL K H a ys ∨ SqT K H a ys) ∧ Q (.int ys.length) H
@[simp] theorem e_len_r {a : Addr} : uLen K [.ref a] H Q = kLen K a H Q (rk (H a)) := by
  simp only [uLen, kLen] <;> rfl
@[simp] theorem e_len_l {a : Addr} {xs : List V} : kLen K a H Q (.l xs) = Q (.int xs.length) H := rfl
@[simp] theorem e_len_t {a : Addr} {xs : List V} : kLen K a H Q (.t xs) = Q (.int xs.length) H := rfl
@[simp] theorem e_len_d {a : Addr} {xs : List (Key × V)} : kLen K a H Q (.d xs) = Q (.int xs.length) H := rfl
@[simp] theorem e_int_i {i : Int} : uInt [.int i] H Q = Q (.int i) H := rfl
@[simp] theorem e_int_b {b : Bool} : uInt [.bl b] H Q = Q (.int (if b then 1 else 0)) H := rfl
def kTuple (K : PySem.W.Frag) (a : Addr) (H : Hp) (Q : VK) : Rk → Prop
  | .l ys => ∀ l, H l = none → Q (.ref l) (upd H l (.tup ys))
  | .t _ => Q (.ref a) H
  | _ => ∃ ys, (SqL K H a ys ∧ ∀ l, H l = none → Q (.ref l) (upd H l (.tup ys))) ∨ (SqT K H a ys ∧ Q (.ref a) H)
@[simp] theorem e_tuple {a : Addr} : uTuple K [.ref a] H Q = kTuple K a H Q (rk (H a)) := by
  simp only [uTuple]
  cases rk (H a) <;> rfl
@[simp] theorem e_tuple_l {a : Addr} {ys : List V} : kTuple K a H Q (.l ys) = ∀ l, H l = none → Q (.ref l) (upd H l (.tup ys)) := rfl
@[simp] theorem e_tuple_t {a : Addr} {ys : List V} : kTuple K a H Q (.t ys) = Q (.ref a) H := rfl
def kList (K : PySem.W.Frag) (a : Addr) (H : Hp) (Q : VK) : Rk → Prop
  | .l ys => ∀ l, H l = none → Q (.ref l) (upd H l (.lst ys))
  | .t ys => ∀ l, H l = none → Q (.ref l) (upd H l (.lst ys))
  | _ => ∃ ys, (SqL K H a ys ∨ SqT K H a ys) ∧ ∀ l, H l = none → Q (.ref l) (upd H l (.lst ys))
@[simp] theorem e_list {a : Addr} : uList K [.ref a] H Q = kList K a H Q (rk (H a)) := by
  simp only [uList]
  cases rk (H a) <;> rfl
@[simp] theorem e_list_l {a : Addr} {ys : List V} : kList K a H Q (.l ys) = ∀ l, H l = none → Q (.ref l) (upd H l (.lst ys)) := rfl
@[simp] theorem e_list_t {a : Addr} {ys : List V} : kList K a H Q (.t ys) = ∀ l, H l = none → Q (.ref l) (upd H l (.lst ys)) := rfl
@[simp] theorem e_any {a : Addr} : uAny K [.ref a] H Q = ∃ bs : List Bool, SqL K H a (bs.map V.bl) ∧ Q (.bl (bs.any id)) H := rfl
@[simp] theorem e_all {a : Addr} : uAll K [.ref a] H Q = ∃ bs : List Bool, SqL K H a (bs.map V.bl) ∧ Q (.bl (bs.all id)) H := rfl
def onV (o : Option V) (P : V → Prop) : Prop := match o with
  | some v => P v
  | none => False
@[simp] theorem onV_some {v : V} {P : V → Prop} : onV (some v) P = P v := rfl
@[simp] theorem onV_none {P : V → Prop} : onV none P = False := rfl
def kIx (K : PySem.W.Frag) (a : Addr) (y : V) (H : Hp) (Q : VK) : Rk → Prop
  | .l xs => match y with
    | .int i => onV (atI xs i) fun v => Q v H
    | _ => False
  | .t xs => match y with
    | .int i => onV (atI xs i) fun v => Q v H
    | _ => False
  | .d kvs => match y with
    | .int i => onV (valV kvs (.inl i)) fun v => Q v H
    | .str i => onV (valV kvs (.inr i)) fun v => Q v H
    | _ => False
  | .o => rIxL K (.ref a) y H Q ∨ rIxT K (.ref a) y H Q ∨ ∃ v, DGet H a y (some v) ∧ Q v H
@[simp] theorem e_ix_i {a : Addr} {i : Int} : uIx K (.ref a) (.int i) H Q = kIx K a (.int i) H Q (rk (H a)) := by
  simp only [uIx]
  cases rk (H a) <;> rfl
@[simp] theorem e_ix_li {a : Addr} {i : Int} {xs : List V} : kIx K a (.int i) H Q (.l xs) = onV (atI xs i) fun v => Q v H := rfl
@[simp] theorem e_ix_ti {a : Addr} {i : Int} {xs : List V} : kIx K a (.int i) H Q (.t xs) = onV (atI xs i) fun v => Q v H := rfl
@[simp] theorem e_ix_di {a : Addr} {i : Int} {xs : List (Key × V)} : kIx K a (.int i) H Q (.d xs) = onV (valV xs (.inl i)) fun v => Q v H := rfl
@[simp] theorem e_ix_ds {a : Addr} {i : Str} {xs : List (Key × V)} : kIx K a (.str i) H Q (.d xs) = onV (valV xs (.inr i)) fun v => Q v H := rfl
@[simp] theorem e_ix_s {a : Addr} {i : Str} : uIx K (.ref a) (.str i) H Q = kIx K a (.str i) H Q (rk (H a)) := by
  simp only [uIx]
  cases rk (H a) <;> rfl
def onN (o : Option Nat) (P : Nat → Prop) : Prop := match o with
  | some v => P v
  | none => False
@[simp] theorem onN_some {v : Nat} {P : Nat → Prop} : onN (some v) P = P v := rfl
@[simp] theorem onN_none {P : Nat → Prop} : onN none P = False := rfl
def kPut (a : Addr) (i v : V) (H : Hp) (P : Hp → Prop) : Option HO → Prop
  | some (.lst xs) => match i with
    | .int k => onN (ixN xs.length k) fun j => P (upd H a (.lst (xs.set j v)))
    | _ => False
  | some (.dK kvs) => match i with
    | .int k => kvs.length < sizeLine ∧ P (upd H a (.dK (putK kvs (.inl k) v)))
    | .str k => kvs.length < sizeLine ∧ P (upd H a (.dK (putK kvs (.inr k) v)))
    | _ => False
  | _ => ∃ H', DPut H a i v H' ∧ P H'
@[simp] theorem e_set_i {a : Addr} {i : Int} {v : V} {P : Hp → Prop} : uSet (.ref a) (.int i) v H P = kPut a (.int i) v H P (H a) := by
  simp only [uSet]
  cases e : H a with
  | none => rfl
  | some o => cases o <;> rfl
@[simp] theorem e_set_s {a : Addr} {i : Str} {v : V} {P : Hp → Prop} : uSet (.ref a) (.str i) v H P = kPut a (.str i) v H P (H a) := by
  simp only [uSet]
  cases e : H a with
  | none => rfl
  | some o => cases o <;> rfl
@[simp] theorem e_put_ds {a : Addr} {i : Str} {v : V} {P : Hp → Prop} {xs : List (Key × V)} : kPut a (.str i) v H P (some (.dK xs)) = (xs.length < sizeLine ∧ P (upd H a (.dK (putK xs (.inr i) v)))) := rfl
@[simp] theorem e_put_l {a : Addr} {i : Int} {v : V} {P : Hp → Prop} {xs : List V} : kPut a (.int i) v H P (some (.lst xs)) = onN (ixN xs.length i) fun j => P (upd H a (.lst (xs.set j v))) := rfl
@[simp] theorem e_put_di {a : Addr} {i : Int} {v : V} {P : Hp → Prop} {xs : List (Key × V)} : kPut a (.int i) v H P (some (.dK xs)) = (xs.length < sizeLine ∧ P (upd H a (.dK (putK xs (.inl i) v)))) := rfl
def kAdd (K : PySem.W.Frag) (a b : Addr) (H : Hp) (Q : VK) : Option HO → Option HO → Prop
  | some (.lst xs), some (.lst ys) => xs.length + ys.length ≤ sizeLine ∧ ∀ p, H p = none → Q (.ref p) (upd H p (.lst (xs ++ ys)))
  | _, _ => rCatA K (.ref a) (.ref b) H Q
@[simp] theorem e_addr {a b : Addr} : uAdd K (.ref a) (.ref b) H Q = kAdd K a b H Q (H a) (H b) := by
  simp only [uAdd, kAdd] <;> rfl
@[simp] theorem e_add_l {a b : Addr} {xs ys : List V} : kAdd K a b H Q (some (.lst xs)) (some (.lst ys)) = (xs.length + ys.length ≤ sizeLine ∧ ∀ p, H p = none → Q (.ref p) (upd H p (.lst (xs ++ ys)))) := rfl
def kMul (j : Int) (H : Hp) (Q : VK) : Option HO → Prop
  | some (.lst xs) => (-(2 ^ 63) ≤ j ∧ j < 2 ^ 63 ∧ xs.length * j.toNat ≤ sizeLine) ∧ ∀ p, H p = none → Q (.ref p) (upd H p (.lst (List.replicate j.toNat xs).flatten))
  | _ => False
@[simp] theorem e_mulr {a : Addr} {j : Int} : uMul K (.ref a) (.int j) H Q = kMul j H Q (H a) := by
  simp only [uMul, kMul] <;> rfl
@[simp] theorem e_mul_l {j : Int} {xs : List V} : kMul j H Q (some (.lst xs)) = ((-(2 ^ 63) ≤ j ∧ j < 2 ^ 63 ∧ xs.length * j.toNat ≤ sizeLine) ∧ ∀ p, H p = none → Q (.ref p) (upd H p (.lst (List.replicate j.toNat xs).flatten))) := rfl
@[simp] theorem e_trun {B : Bool → Hp → Prop} : uTru K .non H B = B false H := rfl
@[simp] theorem e_trui {i : Int} {B : Bool → Hp → Prop} : uTru K (.int i) H B = B (i != 0) H := rfl
/-- the same, from what stands there -/
def kFldO (K : PySem.W.Frag) (f : Str) (o : Option HO) (H : Hp) (Q : VK) : Prop := match o with
  | some (.ins C _ fs) => (Cls K C ∧ NoAttr K C f) ∧ (match fs.lookup f with
    | some v => Q v H
    | none => False)
  | _ => False
def onSome (o : Option V) (P : V → Prop) : Prop := match o with
  | some v => P v
  | none => False
@[simp] theorem onSome_some {v : V} {P : V → Prop} : onSome (some v) P = P v := rfl
@[simp] theorem onSome_none {P : V → Prop} : onSome none P = False := rfl
@[simp] theorem e_fld {a : Addr} : kFld K f (.ref a) H Q = kFldO K f (H a) H Q := rfl
@[simp] theorem e_fldo {C dx : Addr} {fs : List (Str × V)} : kFldO K f (some (.ins C dx fs)) H Q = ((Cls K C ∧ NoAttr K C f) ∧ onSome (fs.lookup f) fun v => Q v H) := rfl
def kSetO (K : PySem.W.Frag) (f : Str) (a : Addr) (o : Option HO) (y : V) (H : Hp) (P : Hp → Prop) : Prop := match o with
  | some (.ins C dx fs) => (Cls K C ∧ NoAttr K C f ∧ fs.length < 1000) ∧ P (upd H a (.ins C dx (putF f y fs)))
  | _ => False
@[simp] theorem e_fset {a : Addr} {y : V} {P : Hp → Prop} : kSet K f (.ref a) y H P = kSetO K f a (H a) y H P := rfl
@[simp] theorem e_fseto {a C dx : Addr} {fs : List (Str × V)} {y : V} {P : Hp → Prop} : kSetO K f a (some (.ins C dx fs)) y H P = ((Cls K C ∧ NoAttr K C f ∧ fs.length < 1000) ∧ P (upd H a (.ins C dx (putF f y fs)))) := rfl
def NoFld (fs : List (Str × V)) (m : Str) : Prop := fs.lookup m = none
def kMtO (C : Addr) (m : Str) (o : Option HO) (P : Prop) : Prop := match o with
  | some (.ins C' _ fs) => (C' = C ∧ NoFld fs m) ∧ P
  | _ => False
@[simp] theorem e_mt {a C : Addr} {m : Str} {P : Prop} : kMt C m (.ref a) H P = kMtO C m (H a) P := rfl
@[simp] theorem e_mto {C C' dx : Addr} {fs : List (Str × V)} {m : Str} {P : Prop} : kMtO C m (some (.ins C' dx fs)) P = ((C' = C ∧ NoFld fs m) ∧ P) := rfl
/-- o.f += e, by values -/
def kAug (C : Addr) (f : Str) (z : V) (a : Addr) (H : Hp) (P : Hp → Prop) : Prop := match H a with
  | some (.ins C' dx fs) => (C' = C ∧ fs.length < 1000) ∧ P (upd H a (.ins C dx (putF f z fs)))
  | _ => False
def kAug1 (K : PySem.W.Frag) (f : Str) (a : Addr) (tb : TE) (rd : R2) (σ : L2.St) (H1 : Hp) (P : Hp → Prop) : Option HO → Prop
  | some (.ins C _ fs) => (Cls K C ∧ NoAttr K C f) ∧ onSome (fs.lookup f) fun v => tb σ H1 fun y H2 => rd v y H2 fun z H3 => kAug C f z a H3 P
  | _ => False
def kAug0 (K : PySem.W.Frag) (f : Str) (x : V) (tb : TE) (rd : R2) (σ : L2.St) (H1 : Hp) (P : Hp → Prop) : Prop := match x with
  | .ref a => kAug1 K f a tb rd σ H1 P (H1 a)
  | _ => False
@[simp] theorem b_aug {ta tb : TE} {rd : R2} : sFldAug K ta tb rd f D σ H = ta σ H fun x H1 => kAug0 K f x tb rd σ H1 (D.nx σ) := by
  have ka : ∀ (C : Addr) (a : Addr), (fun (z : V) (H3 : Hp) => ∃ dx' fs', H3 a = some (.ins C dx' fs') ∧ fs'.length < 1000 ∧ D.nx σ (upd H3 a (.ins C dx' (putF f z fs')))) = fun z H3 => kAug C f z a H3 (D.nx σ) := by
    intro C a
    funext z H3
    refine propext ⟨?_, fun h => ?_⟩
    · rintro ⟨dx, fs, e, l, h⟩
      unfold kAug
      simp only [e]
      exact ⟨⟨trivial, l⟩, h⟩
    · unfold kAug at h
      split at h
      · rename_i C' dx fs e
        obtain ⟨⟨h1, l⟩, h⟩ := h
        subst h1
        exact ⟨dx, fs, e, l, h⟩
      · exact h.elim
  unfold sFldAug
  congr 1
  funext x H1
  refine propext ⟨?_, fun h => ?_⟩
  · rintro ⟨a, C, dx, fs, v, rfl, e, h1, h2, l, h⟩
    simp only [ka] at h
    show kAug1 K f a tb rd σ H1 (D.nx σ) (H1 a)
    rw [e]
    show (Cls K C ∧ NoAttr K C f) ∧ onSome (fs.lookup f) _
    rw [l]
    exact ⟨⟨h1, h2⟩, h⟩
  · unfold kAug0 at h
    split at h
    · rename_i a
      unfold kAug1 at h
      split at h
      · rename_i C dx fs e
        obtain ⟨⟨h1, h2⟩, h⟩ := h
        unfold onSome at h
        split at h
        · rename_i v l
          simp only [← ka] at h
          exact ⟨a, C, dx, fs, v, rfl, e, h1, h2, l, h⟩
        · exact h.elim
      · exact h.elim
    · exact h.elim
@[simp] theorem e_aug0 {a : Addr} {tb : TE} {rd : R2} {P : Hp → Prop} : kAug0 K f (.ref a) tb rd σ H P = kAug1 K f a tb rd σ H P (H a) := rfl
@[simp] theorem e_aug1 {a C dx : Addr} {fs : List (Str × V)} {tb : TE} {rd : R2} {P : Hp → Prop} : kAug1 K f a tb rd σ H P (some (.ins C dx fs)) = ((Cls K C ∧ NoAttr K C f) ∧ onSome (fs.lookup f) fun v => tb σ H fun y H2 => rd v y H2 fun z H3 => kAug C f z a H3 P) := rfl
def kAugO (C : Addr) (f : Str) (z : V) (a : Addr) (H : Hp) (P : Hp → Prop) : Option HO → Prop
  | some (.ins C' dx fs) => (C' = C ∧ fs.length < 1000) ∧ P (upd H a (.ins C dx (putF f z fs)))
  | _ => False
@[simp] theorem e_aug {C : Addr} {z : V} {a : Addr} {P : Hp → Prop} : kAug C f z a H P = kAugO C f z a H P (H a) := by
  unfold kAug kAugO
  rfl
@[simp] theorem e_augo {C C' dx : Addr} {fs : List (Str × V)} {z : V} {a : Addr} {P : Hp → Prop} : kAugO C f z a H P (some (.ins C' dx fs)) = ((C' = C ∧ fs.length < 1000) ∧ P (upd H a (.ins C dx (putF f z fs)))) := rfl
@[simp] theorem e_gsub {to ti : TE} {t : TSet} {v : V} {P : L2.St → Hp → Prop} : gSub to ti t v σ H P = to σ H fun o H1 => ti σ H1 fun i H2 => t o i v H2 fun H3 => P σ H3 := rfl
@[simp] theorem e_gtup {n : Nat} {t : TGs} {v : V} {P : L2.St → Hp → Prop} : gTup K n t v σ H P = ∃ a xs, v = .ref a ∧ SqT K H a xs ∧ xs.length = n ∧ t xs σ H P := rfl
@[simp] theorem e_gnil {vs : List V} {P : L2.St → Hp → Prop} : gNil vs σ H P = (vs = [] ∧ P σ H) := rfl
@[simp] theorem e_gcons {t : TG} {u : TGs} {v : V} {vs : List V} {P : L2.St → Hp → Prop} : gCons t u (v :: vs) σ H P = t v σ H fun σ' H' => u vs σ' H' P := by
  unfold gCons
  refine propext ⟨?_, fun h => ⟨v, vs, rfl, h⟩⟩
  rintro ⟨w, r, e, h⟩
  cases e
  exact h
@[simp] theorem e_gfld {ta : TE} {v : V} {P : L2.St → Hp → Prop} : gFld K ta f v σ H P = ta σ H fun x H2 => kSet K f x v H2 (P σ) := by
  unfold gFld
  congr 1
  funext x H2
  refine propext ⟨?_, fun h => ?_⟩
  · rintro ⟨a, C, dx, fs, rfl, e, h1, h2, l, h⟩
    unfold kSet
    simp only [e]
    exact ⟨⟨h1, h2, l⟩, h⟩
  · unfold kSet at h
    split at h
    · rename_i a
      split at h
      · rename_i C dx fs e
        exact ⟨a, C, dx, fs, rfl, e, h.1.1, h.1.2.1, h.1.2.2, h.2⟩
      · exact h.elim
    · exact h.elim
@[simp] theorem e_rAdd {i j : Int} : rAdd (.int i) (.int j) H Q = Q (.int (i + j)) H := by
  unfold rAdd
  simp
/-! calls -/
@[simp] theorem e_S1 {f : V → Hp → VK → XK → Prop} {a : V} {E : XK} : S1 f [a] H Q E = f a H Q E := rfl
@[simp] theorem e_S2 {f : V → V → Hp → VK → XK → Prop} {a b : V} {E : XK} : S2 f [a, b] H Q E = f a b H Q E := rfl
@[simp] theorem e_S3 {f : V → V → V → Hp → VK → XK → Prop} {a b c : V} {E : XK} : S3 f [a, b, c] H Q E = f a b c H Q E := rfl
@[simp] theorem e_S4 {f : V → V → V → V → Hp → VK → XK → Prop} {a b c d : V} {E : XK} : S4 f [a, b, c, d] H Q E = f a b c d H Q E := rfl
@[simp] theorem e_S5 {f : V → V → V → V → V → Hp → VK → XK → Prop} {a b c d e : V} {E : XK} : S5 f [a, b, c, d, e] H Q E = f a b c d e H Q E := rfl
@[simp] theorem e_S6 {f : V → V → V → V → V → V → Hp → VK → XK → Prop} {a b c d e g : V} {E : XK} : S6 f [a, b, c, d, e, g] H Q E = f a b c d e g H Q E := rfl
end
/-! places -/
section
variable {α : Type} {xs : List α}
@[simp] theorem ixN_cast {n i : Nat} : ixN n (i : Int) = if i < n then some i else none := by
  unfold ixN
  rw [if_pos (Int.natCast_nonneg i)]
  by_cases h : i < n
  · rw [if_pos h, if_pos (by omega)]
    simp
  · rw [if_neg h, if_neg (by omega)]
@[simp] theorem atI_cast {i : Nat} : atI xs (i : Int) = xs[i]? := by
  unfold atI
  rw [ixN_cast]
  by_cases h : i < xs.length
  · rw [if_pos h]
    rfl
  · rw [if_neg h, List.getElem?_eq_none (by omega)]
    rfl
@[simp] theorem atI_0 : atI xs 0 = xs[0]? := atI_cast (i := 0)
@[simp] theorem atI_1 : atI xs 1 = xs[1]? := atI_cast (i := 1)
@[simp] theorem atI_2 : atI xs 2 = xs[2]? := atI_cast (i := 2)
@[simp] theorem atI_3 : atI xs 3 = xs[3]? := atI_cast (i := 3)
@[simp] theorem atI_4 : atI xs 4 = xs[4]? := atI_cast (i := 4)
theorem atI_nn {i : Int} (h : 0 ≤ i) : atI xs i = xs[i.toNat]? := by
  have e := atI_cast (xs := xs) (i := i.toNat)
  rw [show ((i.toNat : Nat) : Int) = i by omega] at e
  exact e
theorem ixN_nn {n : Nat} {i : Int} (h : 0 ≤ i) : ixN n i = if i.toNat < n then some i.toNat else none := by
  have e := ixN_cast (n := n) (i := i.toNat)
  rw [show ((i.toNat : Nat) : Int) = i by omega] at e
  exact e
end
@[simp] theorem upd_upd' {H : Hp} {a : Addr} {o u : HO} : upd (upd H a o) a u = upd H a u := upd_upd
/-- all that stood but for these stays -/
def Out (S : List Addr) (H H' : Hp) : Prop := ∀ b o, H b = some o → b ∉ S → H' b = some o
theorem Out.refl {S : List Addr} {H : Hp} : Out S H H := fun _ _ h _ => h
theorem Out.trans {S : List Addr} {H H1 H2 : Hp} (a : Out S H H1) (b : Out S H1 H2) : Out S H H2 := fun c o h n => b c o (a c o h n) n
theorem Out.mono {S T : List Addr} {H H1 : Hp} (a : Out S H H1) (h : ∀ x ∈ S, x ∈ T) : Out T H H1 := fun c o e n => a c o e fun m => n (h c m)
theorem Out.new {S : List Addr} {H H1 : Hp} (a : Out S H H1) {p : Addr} {o : HO} (h : H1 p = none) : Out S H (upd H1 p o) := fun c u e n => by
  have z := a c u e n
  rw [upd_ne (ne_of_none z h)]
  exact z
theorem Out.put {S : List Addr} {H H1 : Hp} (a : Out S H H1) {p : Addr} {o : HO} (h : p ∈ S) : Out S H (upd H1 p o) := fun c u e n => by
  rw [upd_ne (fun z => n (by rw [z]; exact h))]
  exact a c u e n
/-- what was free stays free of what stood -/
theorem Out.free {H H' : Hp} (a : Out [] H H') {p : Addr} (h : H' p = none) : H p = none := by
  cases e : H p with
  | none => rfl
  | some o =>
    rw [a p o e (by simp)] at h
    cases h
abbrev Ex (H H' : Hp) : Prop := Out [] H H'
theorem Ex.at {H H' : Hp} (a : Ex H H') {p : Addr} {o : HO} (h : H p = some o) : H' p = some o := a p o h (by simp)
theorem Ex.up {H : Hp} {p : Addr} {o : HO} (h : H p = none) : Ex H (upd H p o) := Out.new Out.refl h
/-! ### comprehensions and loops, by values -/
def rLc (g : TG) (tt : TT) (te : TE) (vs : List Nat) (σ : L2.St) (Q : VK) : It → Hp → Prop := fun J H1 => ∀ D, H1 D = none → ∃ W : Nat → Nat → Hp → Prop, (∃ m, W 0 m (upd H1 D (.lst []))) ∧ ∀ i m H, W i m H →
  (J.stop i H ∧ Q (.ref D) H) ∨ (J.go i H ∧ ∃ Nx : Hp → Prop, (∀ H', Nx H' → ∃ m', m' < m ∧ W (i + 1) m' H') ∧ ∀ x H', J.yld i H x H' → g x (wipe σ vs) H' fun σ2 H2 => wipe σ2 vs = wipe σ vs ∧ tt σ2 H2 fun b H3 =>
    if b = true then te σ2 H3 fun y H4 => ∃ acc, H4 D = some (.lst acc) ∧ acc.length < sizeLine ∧ Nx (upd H4 D (.lst (acc ++ [y]))) else Nx H3)
def rFor (g : TG) (tb : TS) (D : Ends) (σ : L2.St) : It → Hp → Prop := fun J H1 => ∃ W : Nat → Nat → L2.St → Hp → Prop, (∃ m, W 0 m σ H1) ∧ ∀ i m σ H, W i m σ H →
  (J.stop i H ∧ D.nx σ H) ∨ (J.go i H ∧ ∃ N : L2.St → Hp → Prop, (∀ σ' H', N σ' H' → ∃ m', m' < m ∧ W (i + 1) m' σ' H') ∧ ∀ x H', J.yld i H x H' → g x σ H' fun σ2 H2 => tb { D with nx := N, ct := N, bk := D.nx } σ2 H2)
/-- what is walked, by its value -/
def kSeq (K : PySem.W.Frag) (x : V) (H1 : Hp) (R : It → Hp → Prop) : Prop := ∃ a, x = .ref a ∧ (((∃ xs, SqL K H1 a xs) ∧ R (Itl K a) H1) ∨ ((∃ xs, SqT K H1 a xs) ∧ R (Itt K a) H1))
def kRng1 (vs : List V) (H1 : Hp) (R : It → Hp → Prop) : Prop := ∃ j : Int, vs = [.int j] ∧ -(2 ^ 62) ≤ j ∧ j < 2 ^ 62 ∧ R (Itr 0 j.toNat) H1
def kRng2 (vs : List V) (H1 : Hp) (R : It → Hp → Prop) : Prop := ∃ i j : Int, vs = [.int i, .int j] ∧ (-(2 ^ 62) ≤ i ∧ i < 2 ^ 62 ∧ -(2 ^ 62) ≤ j ∧ j < 2 ^ 62) ∧ R (Itr i (j - i).toNat) H1
def kEnum (K : PySem.W.Frag) (vs : List V) (H1 : Hp) (R : It → Hp → Prop) : Prop := ∃ a xs, vs = [.ref a] ∧ SqL K H1 a xs ∧ R (Ite K a) H1
def kZip (K : PySem.W.Frag) (vs : List V) (H1 : Hp) (R : It → Hp → Prop) : Prop := ∃ a b xs ys, vs = [.ref a, .ref b] ∧ SqL K H1 a xs ∧ SqL K H1 b ys ∧ R (Itz K a b) H1
def kZipLT (K : PySem.W.Frag) (vs : List V) (H1 : Hp) (R : It → Hp → Prop) : Prop := ∃ a b xs ys, vs = [.ref a, .ref b] ∧ SqL K H1 a xs ∧ SqT K H1 b ys ∧ R (ItzLT K a b) H1
section
variable {K : PySem.W.Frag} {σ : L2.St} {H : Hp} {Q : VK} {g : TG} {tt : TT} {te tl : TE} {vs : List Nat} {tb : TS} {D : Ends} {ta : TA} {wi : TI} {R : It → Hp → Prop}
@[simp] theorem w_lc : tLc wi g tt te vs σ H Q = wi σ H (rLc g tt te vs σ Q) := rfl
@[simp] theorem w_for : tFor wi g tb D σ H = wi σ H (rFor g tb D σ) := rfl
@[simp] theorem w_seq : iSeq K tl σ H R = tl σ H fun x H1 => kSeq K x H1 R := rfl
@[simp] theorem w_rng1 : iRng1 ta σ H R = ta σ H fun vs H1 => kRng1 vs H1 R := rfl
@[simp] theorem w_rng2 : iRng2 ta σ H R = ta σ H fun vs H1 => kRng2 vs H1 R := rfl
@[simp] theorem w_enum : iEnum K ta σ H R = ta σ H fun vs H1 => kEnum K vs H1 R := rfl
@[simp] theorem w_zip : iZip K ta σ H R = ta σ H fun vs H1 => kZip K vs H1 R := rfl
@[simp] theorem w_zipLT : iZipLT K ta σ H R = ta σ H fun vs H1 => kZipLT K vs H1 R := rfl
/-- the items kept of the first i -/
def got (f : Nat → Option V) (i : Nat) : List V := (List.range i).filterMap f
theorem got_zero (f : Nat → Option V) : got f 0 = [] := rfl
theorem got_some {f : Nat → Option V} {i : Nat} {y : V} (h : f i = some y) : got f (i + 1) = got f i ++ [y] := by
  unfold got
  rw [List.range_succ, List.filterMap_append, List.filterMap_cons, h]
  rfl
theorem got_none {f : Nat → Option V} {i : Nat} (h : f i = none) : got f (i + 1) = got f i := by
  unfold got
  rw [List.range_succ, List.filterMap_append, List.filterMap_cons, h]
  simp
theorem got_len (f : Nat → Option V) (i : Nat) : (got f i).length ≤ i := by
  unfold got
  have h := List.length_filterMap_le f (List.range i)
  rw [List.length_range] at h
  exact h
/-- what a turn of a comprehension must show -/
def LcStep (g : TG) (tt : TT) (te : TE) (vs : List Nat) (σ : L2.St) (H' : Hp) (x : V) (o : Option V) : Prop := ∀ (K1 : VK) (K0 : Hp → Prop), (∀ y H3, Ex H' H3 → o = some y → K1 y H3) → (∀ H3, Ex H' H3 → o = none → K0 H3) →
  g x (wipe σ vs) H' fun σ2 H2 => wipe σ2 vs = wipe σ vs ∧ tt σ2 H2 fun b H3 => if b = true then te σ2 H3 K1 else K0 H3
theorem lc_turn {f : Nat → Option V} {i : Nat} {D : Addr} {H H' : Hp} {x : V} (hD : H D = none) (hi : i < 1000000) (e : Ex H H') (d : H' D = some (.lst (got f i))) (s : LcStep g tt te vs σ H' x (f i)) :
    g x (wipe σ vs) H' fun σ2 H2 => wipe σ2 vs = wipe σ vs ∧ tt σ2 H2 fun b H3 => if b = true then te σ2 H3 fun y H4 => ∃ acc, H4 D = some (.lst acc) ∧ acc.length < sizeLine ∧ (H D = none ∧ Ex H (upd H4 D (.lst (acc ++ [y]))) ∧ upd H4 D (.lst (acc ++ [y])) D = some (.lst (got f (i + 1))))
      else (H D = none ∧ Ex H H3 ∧ H3 D = some (.lst (got f (i + 1)))) := by
  refine s _ _ (fun y H4 e4 hy => ?_) fun H3 e3 hn => ?_
  · refine ⟨_, e4.at d, ?_, hD, ?_, ?_⟩
    · have := got_len f i
      have h2 : (1000000 : Nat) ≤ sizeLine := by decide
      omega
    · intro b o hb _
      rw [upd_ne (ne_of_none hb hD)]
      exact Ex.at (e.trans e4) hb
    · rw [upd_same, got_some hy]
  · refine ⟨hD, e.trans e3, ?_⟩
    rw [got_none hn]
    exact e3.at d
theorem kSeq_lc {a : Addr} {xs : List V} (hx : rk (H a) = .l xs ∨ rk (H a) = .t xs) (hl : xs.length ≤ 1000000) (f : Nat → Option V)
    (step : ∀ i x H', Ex H H' → xs[i]? = some x → LcStep g tt te vs σ H' x (f i)) (k : ∀ H' D, H D = none → Ex H H' → H' D = some (.lst (got f xs.length)) → Q (.ref D) H') : kSeq K (.ref a) H (rLc g tt te vs σ Q) := by
  refine ⟨a, rfl, ?_⟩
  have st : ∀ i x H', xs[i]? = some x → Ex H H' → i < 1000000 := fun i x H' h _ => by
    have := (List.getElem?_eq_some_iff.mp h).1
    omega
  rcases hx with hx | hx
  · refine .inl ⟨⟨xs, rk_l hx⟩, fun D hD => ?_⟩
    have hs : ∀ H', Ex H H' → SqL K H' a xs := fun H' e => by
      rcases rk_l (K := K) hx with (h | ⟨o, h⟩) | h
      · exact .inl (.inl (e.at h))
      · exact .inl (.inr ⟨o, e.at h⟩)
      · exact .inr h
    exact lc_list (xs := xs) (fun i H' => H D = none ∧ Ex H H' ∧ H' D = some (.lst (got f i))) ⟨hD, Ex.up hD, upd_same⟩ (fun i H' _ p => hs H' p.2.1) (fun i x H' hi p => lc_turn hD (st i x H' hi p.2.1) p.2.1 p.2.2 (step i x H' p.2.1 hi)) (fun H' p => k H' D hD p.2.1 p.2.2)
  · refine .inr ⟨⟨xs, rk_t hx⟩, fun D hD => ?_⟩
    have hs : ∀ H', Ex H H' → SqT K H' a xs := fun H' e => by
      rcases rk_t (K := K) hx with (h | ⟨o, h⟩) | h
      · exact .inl (.inl (e.at h))
      · exact .inl (.inr ⟨o, e.at h⟩)
      · exact .inr h
    exact lc_tup (xs := xs) (fun i H' => H D = none ∧ Ex H H' ∧ H' D = some (.lst (got f i))) ⟨hD, Ex.up hD, upd_same⟩ (fun i H' _ p => hs H' p.2.1) (fun i x H' hi p => lc_turn hD (st i x H' hi p.2.1) p.2.1 p.2.2 (step i x H' p.2.1 hi)) (fun H' p => k H' D hD p.2.1 p.2.2)
theorem kRng1_lc {n : Int} (h0 : 0 ≤ n) (hn : n ≤ 1000000) (f : Nat → Option V)
    (step : ∀ (i : Nat) H', Ex H H' → (i : Int) < n → LcStep g tt te vs σ H' (.int i) (f i)) (k : ∀ H' D, H D = none → Ex H H' → H' D = some (.lst (got f n.toNat)) → Q (.ref D) H') : kRng1 [.int n] H (rLc g tt te vs σ Q) := by
  refine ⟨n, rfl, by omega, by omega, fun D hD => ?_⟩
  refine lc_range (lo := 0) (n := n.toNat) (fun i H' => H D = none ∧ Ex H H' ∧ H' D = some (.lst (got f i))) ⟨hD, Ex.up hD, upd_same⟩ (fun i H' hi p => ?_) (fun H' p => k H' D hD p.2.1 p.2.2)
  have e0 : (0 : Int) + (i : Int) = (i : Int) := Int.zero_add _
  rw [e0]
  exact lc_turn hD (by omega) p.2.1 p.2.2 (step i H' p.2.1 (by omega))
theorem kEnum_lc {a : Addr} {xs : List V} (hx : rk (H a) = .l xs) (hl : xs.length ≤ 1000000) (f : Nat → Option V)
    (step : ∀ i x H' T, Ex H H' → xs[i]? = some x → H' T = some (.tup [.int (i : Nat), x]) → LcStep g tt te vs σ H' (.ref T) (f i)) (k : ∀ H' D, H D = none → Ex H H' → H' D = some (.lst (got f xs.length)) → Q (.ref D) H') : kEnum K [.ref a] H (rLc g tt te vs σ Q) := by
  refine ⟨a, xs, rfl, rk_l hx, fun D hD => ?_⟩
  have hs : ∀ H', Ex H H' → SqL K H' a xs := fun H' e => by
    rcases rk_l (K := K) hx with (h | ⟨o, h⟩) | h
    · exact .inl (.inl (e.at h))
    · exact .inl (.inr ⟨o, e.at h⟩)
    · exact .inr h
  refine ⟨fun i m H' => m = xs.length - i ∧ i ≤ xs.length ∧ H D = none ∧ Ex H H' ∧ H' D = some (.lst (got f i)), ⟨xs.length, by simp, Nat.zero_le _, hD, Ex.up hD, upd_same⟩, ?_⟩
  rintro i m H' ⟨rfl, hi, _, e, d⟩
  have q := hs H' e
  by_cases hlt : i < xs.length
  · refine .inr ⟨⟨xs, xs[i], q, by simp [hlt]⟩, fun H' => H D = none ∧ Ex H H' ∧ H' D = some (.lst (got f (i + 1))), fun H3 p' => ⟨xs.length - (i + 1), by omega, rfl, hlt, p'⟩, fun y H2 hy => ?_⟩
    obtain ⟨T, x, rfl, hT, rfl, hx'⟩ := hy
    have hxi := hx' xs q
    have hTD : D ≠ T := fun z => by rw [z] at d; rw [hT] at d; cases d
    refine lc_turn hD (by omega) (e.new hT) (by rw [upd_ne hTD]; exact d) (step i x _ T (e.new hT) hxi upd_same)
  · have e2 : i = xs.length := by omega
    subst e2
    exact .inl ⟨⟨xs, q, Nat.le_refl _⟩, k H' D hD e d⟩
/-- for x in xs -/
theorem kSeq_for {a : Addr} {xs : List V} (hx : rk (H a) = .l xs ∨ rk (H a) = .t xs) (Pv : Nat → L2.St → Hp → Prop) (h0 : Pv 0 σ H) (hl : ∀ i σ' H', i ≤ xs.length → Pv i σ' H' → rk (H' a) = rk (H a))
    (hs : ∀ i x σ' H', xs[i]? = some x → Pv i σ' H' → g x σ' H' fun σ2 H2 => tb { D with nx := Pv (i + 1), ct := Pv (i + 1), bk := D.nx } σ2 H2) (hd : ∀ σ' H', Pv xs.length σ' H' → D.nx σ' H') : kSeq K (.ref a) H (rFor g tb D σ) := by
  refine ⟨a, rfl, ?_⟩
  rcases hx with hx | hx
  · exact .inl ⟨⟨xs, rk_l hx⟩, for_list (xs := xs) Pv h0 (fun i σ' H' hi p => rk_l ((hl i σ' H' hi p).trans hx)) hs hd⟩
  · exact .inr ⟨⟨xs, rk_t hx⟩, for_tup (xs := xs) Pv h0 (fun i σ' H' hi p => rk_t ((hl i σ' H' hi p).trans hx)) hs hd⟩
theorem kRng1_for {n : Int} (hb : -(2 ^ 62) ≤ n ∧ n < 2 ^ 62) (Pv : Nat → L2.St → Hp → Prop) (h0 : Pv 0 σ H)
    (hs : ∀ (i : Nat) σ' H', (i : Int) < n → Pv i σ' H' → g (.int i) σ' H' fun σ2 H2 => tb { D with nx := Pv (i + 1), ct := Pv (i + 1), bk := D.nx } σ2 H2) (hd : ∀ σ' H', Pv n.toNat σ' H' → D.nx σ' H') : kRng1 [.int n] H (rFor g tb D σ) := by
  refine ⟨n, rfl, hb.1, hb.2, for_range (lo := 0) (n := n.toNat) Pv h0 (fun i σ' H' hi p => ?_) hd⟩
  have e0 : (0 : Int) + (i : Int) = (i : Int) := Int.zero_add _
  rw [e0]
  exact hs i σ' H' (by omega) p
theorem kRng2_for {lo n : Int} (hb : -(2 ^ 62) ≤ lo ∧ lo < 2 ^ 62 ∧ -(2 ^ 62) ≤ n ∧ n < 2 ^ 62) (Pv : Nat → L2.St → Hp → Prop) (h0 : Pv 0 σ H)
    (hs : ∀ (i : Nat) σ' H', lo + (i : Int) < n → Pv i σ' H' → g (.int (lo + i)) σ' H' fun σ2 H2 => tb { D with nx := Pv (i + 1), ct := Pv (i + 1), bk := D.nx } σ2 H2) (hd : ∀ σ' H', Pv (n - lo).toNat σ' H' → D.nx σ' H') : kRng2 [.int lo, .int n] H (rFor g tb D σ) :=
  ⟨lo, n, rfl, hb, for_range (lo := lo) (n := (n - lo).toNat) Pv h0 (fun i σ' H' hi p => hs i σ' H' (by omega) p) hd⟩
end
section
variable {K : PySem.W.Frag} {σ : L2.St} {H : Hp} {Q : VK} {g : TG} {tt : TT} {te tl : TE} {vs : List Nat} {tb : TS} {D : Ends} {ta : TA} {wi : TI} {R : It → Hp → Prop}
theorem gTup_at {n : Nat} {t : TGs} {T : Addr} {xs : List V} {P : L2.St → Hp → Prop} (h : rk (H T) = .t xs) (hl : xs.length = n) (k : t xs σ H P) : gTup K n t (.ref T) σ H P := ⟨T, xs, rfl, rk_t h, hl, k⟩
theorem rk_keep {H H' : Hp} {a : Addr} {r : Rk} (h : rk (H a) = r) (hr : r ≠ .o) (e : Ex H H') : rk (H' a) = r := by
  cases q : H a with
  | none => rw [q] at h; exact absurd h.symm hr
  | some o => rw [e.at q, ← h, q]
theorem kEnum_for {a : Addr} {xs : List V} (hx : rk (H a) = .l xs) (Pv : Nat → L2.St → Hp → Prop) (h0 : Pv 0 σ H) (hl : ∀ i σ' H', i ≤ xs.length → Pv i σ' H' → rk (H' a) = .l xs)
    (hs : ∀ i x σ' H' T, xs[i]? = some x → Pv i σ' H' → H' T = none → g (.ref T) σ' (upd H' T (.tup [.int (i : Nat), x])) fun σ2 H2 => tb { D with nx := Pv (i + 1), ct := Pv (i + 1), bk := D.nx } σ2 H2) (hd : ∀ σ' H', Pv xs.length σ' H' → D.nx σ' H') : kEnum K [.ref a] H (rFor g tb D σ) := by
  refine ⟨a, xs, rfl, rk_l hx, fun i m σ' H' => m = xs.length - i ∧ i ≤ xs.length ∧ Pv i σ' H', ⟨xs.length, by simp, Nat.zero_le _, h0⟩, ?_⟩
  rintro i m σ' H' ⟨rfl, hi, p⟩
  have q : SqL K H' a xs := rk_l (hl i σ' H' hi p)
  by_cases hlt : i < xs.length
  · refine .inr ⟨⟨xs, xs[i], q, by simp [hlt]⟩, Pv (i + 1), fun σ2 H2 p' => ⟨xs.length - (i + 1), by omega, rfl, hlt, p'⟩, fun y H2 hy => ?_⟩
    obtain ⟨T, x, rfl, hT, rfl, hx'⟩ := hy
    exact hs i x σ' H' T (hx' xs q) p hT
  · have e2 : i = xs.length := by omega
    subst e2
    exact .inl ⟨⟨xs, q, Nat.le_refl _⟩, hd σ' H' p⟩
theorem kZip_lc {a b : Addr} {xs ys : List V} (hx : rk (H a) = .l xs) (hy : rk (H b) = .l ys) (hl : xs.length ≤ 1000000) (f : Nat → Option V)
    (step : ∀ i x y H' T, Ex H H' → xs[i]? = some x → ys[i]? = some y → H' T = some (.tup [x, y]) → LcStep g tt te vs σ H' (.ref T) (f i)) (k : ∀ H' D, H D = none → Ex H H' → H' D = some (.lst (got f (min xs.length ys.length))) → Q (.ref D) H') : kZip K [.ref a, .ref b] H (rLc g tt te vs σ Q) := by
  refine ⟨a, b, xs, ys, rfl, rk_l hx, rk_l hy, fun D hD => ?_⟩
  refine ⟨fun i m H' => m = min xs.length ys.length - i ∧ i ≤ min xs.length ys.length ∧ H D = none ∧ Ex H H' ∧ H' D = some (.lst (got f i)), ⟨_, rfl, Nat.zero_le _, hD, Ex.up hD, upd_same⟩, ?_⟩
  rintro i m H' ⟨rfl, hi, _, e, d⟩
  have q1 : SqL K H' a xs := rk_l (rk_keep hx (by simp) e)
  have q2 : SqL K H' b ys := rk_l (rk_keep hy (by simp) e)
  by_cases hlt : i < min xs.length ys.length
  · have l1 : i < xs.length := by omega
    have l2 : i < ys.length := by omega
    refine .inr ⟨⟨xs, ys, xs[i], ys[i], q1, q2, by simp [l1], by simp [l2]⟩, fun H' => H D = none ∧ Ex H H' ∧ H' D = some (.lst (got f (i + 1))), fun H3 p' => ⟨min xs.length ys.length - (i + 1), by omega, rfl, hlt, p'⟩, fun v H2 hy => ?_⟩
    obtain ⟨T, x, y, rfl, hT, rfl, hx', hy'⟩ := hy
    have hTD : D ≠ T := fun z => by rw [z] at d; rw [hT] at d; cases d
    exact lc_turn hD (by omega) (e.new hT) (by rw [upd_ne hTD]; exact d) (step i x y _ T (e.new hT) (hx' xs q1) (hy' ys q2) upd_same)
  · have e2 : i = min xs.length ys.length := by omega
    subst e2
    exact .inl ⟨⟨xs, ys, q1, q2, by omega⟩, k H' D hD e d⟩
theorem kZipLT_for {a b : Addr} {xs ys : List V} (hx : rk (H a) = .l xs) (hy : rk (H b) = .t ys) (Pv : Nat → L2.St → Hp → Prop) (h0 : Pv 0 σ H) (hl : ∀ i σ' H', i ≤ min xs.length ys.length → Pv i σ' H' → rk (H' a) = .l xs ∧ rk (H' b) = .t ys)
    (hs : ∀ i x y σ' H' T, xs[i]? = some x → ys[i]? = some y → Pv i σ' H' → H' T = none → g (.ref T) σ' (upd H' T (.tup [x, y])) fun σ2 H2 => tb { D with nx := Pv (i + 1), ct := Pv (i + 1), bk := D.nx } σ2 H2) (hd : ∀ σ' H', Pv (min xs.length ys.length) σ' H' → D.nx σ' H') : kZipLT K [.ref a, .ref b] H (rFor g tb D σ) := by
  refine ⟨a, b, xs, ys, rfl, rk_l hx, rk_t hy, fun i m σ' H' => m = min xs.length ys.length - i ∧ i ≤ min xs.length ys.length ∧ Pv i σ' H', ⟨_, rfl, Nat.zero_le _, h0⟩, ?_⟩
  rintro i m σ' H' ⟨rfl, hi, p⟩
  have q1 : SqL K H' a xs := rk_l (hl i σ' H' hi p).1
  have q2 : SqT K H' b ys := rk_t (hl i σ' H' hi p).2
  by_cases hlt : i < min xs.length ys.length
  · have l1 : i < xs.length := by omega
    have l2 : i < ys.length := by omega
    refine .inr ⟨⟨xs, ys, xs[i], ys[i], ⟨q1, by simp [l1]⟩, q2, by simp [l2]⟩, Pv (i + 1), fun σ2 H2 p' => ⟨min xs.length ys.length - (i + 1), by omega, rfl, hlt, p'⟩, fun v H2 hy => ?_⟩
    obtain ⟨T, x, y, ⟨rfl, hT, rfl⟩, hx', hy'⟩ := hy
    exact hs i x y σ' H' T (hx' xs q1) (hy' ys q2) p hT
  · have e2 : i = min xs.length ys.length := by omega
    subst e2
    exact .inl ⟨⟨xs, ys, ⟨q1, by omega⟩, ⟨q2, by omega⟩, by omega⟩, hd σ' H' p⟩
end
theorem got_const (v : V) (n : Nat) : got (fun _ => some v) n = List.replicate n v := by
  induction n with
  | zero => rfl
  | succ n ih => rw [got_some (y := v) rfl, ih, List.replicate_succ']
section
variable {K : PySem.W.Frag} {H : Hp} {Q : VK}
/-- any, all of a list of one answer -/
theorem any_const {a : Addr} {n : Nat} (h : H a = some (.lst (List.replicate n (.bl false)))) (k : Q (.bl false) H) : uAny K [.ref a] H Q := by
  refine ⟨List.replicate n false, ?_, ?_⟩
  · rw [List.map_replicate]
    exact SqL.of h
  · have e : (List.replicate n false).any id = false := by simp
    rw [e]
    exact k
theorem all_const {a : Addr} {n : Nat} (h : H a = some (.lst (List.replicate n (.bl true)))) (k : Q (.bl true) H) : uAll K [.ref a] H Q := by
  refine ⟨List.replicate n true, ?_, ?_⟩
  · rw [List.map_replicate]
    exact SqL.of h
  · have e : (List.replicate n true).all id = true := by simp
    rw [e]
    exact k
end
/-! comprehensions whose items are told by a relation -/
section
variable {K : PySem.W.Frag} {σ : L2.St} {H : Hp} {Q : VK} {g : TG} {tt : TT} {te tl : TE} {vs : List Nat}
def LcStepR (g : TG) (tt : TT) (te : TE) (vs : List Nat) (σ : L2.St) (H' : Hp) (x : V) (P1 : V → Hp → Prop) (P0 : Hp → Prop) : Prop := ∀ (K1 : VK) (K0 : Hp → Prop), (∀ y H3, Ex H' H3 → P1 y H3 → K1 y H3) → (∀ H3, Ex H' H3 → P0 H3 → K0 H3) →
  g x (wipe σ vs) H' fun σ2 H2 => wipe σ2 vs = wipe σ vs ∧ tt σ2 H2 fun b H3 => if b = true then te σ2 H3 K1 else K0 H3
/-- what is known of the items stays where the list itself grows -/
def LcKeeps (H : Hp) (Pv : Nat → List V → Hp → Prop) : Prop := ∀ i acc H' D l l', H D = none → H' D = some (.lst l) → Pv i acc H' → Pv i acc (upd H' D (.lst l'))
theorem lc_turnR {Pv : Nat → List V → Hp → Prop} {i : Nat} {D : Addr} {H H' : Hp} {x : V} {acc : List V} (kp : LcKeeps H Pv) (hD : H D = none) (hi : i < 1000000) (hl : acc.length ≤ i) (e : Ex H H') (d : H' D = some (.lst acc)) (s : LcStepR g tt te vs σ H' x (fun y H3 => Pv (i + 1) (acc ++ [y]) H3) (fun H3 => Pv (i + 1) acc H3)) :
    g x (wipe σ vs) H' fun σ2 H2 => wipe σ2 vs = wipe σ vs ∧ tt σ2 H2 fun b H3 => if b = true then te σ2 H3 fun y H4 => ∃ acc, H4 D = some (.lst acc) ∧ acc.length < sizeLine ∧ (∃ acc2, acc2.length ≤ i + 1 ∧ Ex H (upd H4 D (.lst (acc ++ [y]))) ∧ upd H4 D (.lst (acc ++ [y])) D = some (.lst acc2) ∧ Pv (i + 1) acc2 (upd H4 D (.lst (acc ++ [y]))))
      else (∃ acc2, acc2.length ≤ i + 1 ∧ Ex H H3 ∧ H3 D = some (.lst acc2) ∧ Pv (i + 1) acc2 H3) := by
  refine s _ _ (fun y H4 e4 hy => ?_) fun H3 e3 hn => ?_
  · have d4 := e4.at d
    refine ⟨acc, d4, ?_, acc ++ [y], by rw [List.length_append]; simp; omega, ?_, upd_same, kp _ _ _ _ _ _ hD d4 hy⟩
    · have h2 : (1000000 : Nat) ≤ sizeLine := by decide
      omega
    · intro b o hb _
      rw [upd_ne (ne_of_none hb hD)]
      exact Ex.at (e.trans e4) hb
  · exact ⟨acc, by omega, e.trans e3, e3.at d, hn⟩
theorem kSeq_lcR {a : Addr} {xs : List V} (hx : rk (H a) = .l xs ∨ rk (H a) = .t xs) (hl : xs.length ≤ 1000000) (Pv : Nat → List V → Hp → Prop) (kp : LcKeeps H Pv) (h0 : ∀ H', Ex H H' → Pv 0 [] H')
    (step : ∀ i x acc H', Ex H H' → Pv i acc H' → xs[i]? = some x → LcStepR g tt te vs σ H' x (fun y H3 => Pv (i + 1) (acc ++ [y]) H3) (fun H3 => Pv (i + 1) acc H3))
    (k : ∀ H' D acc, H D = none → Ex H H' → H' D = some (.lst acc) → Pv xs.length acc H' → Q (.ref D) H') : kSeq K (.ref a) H (rLc g tt te vs σ Q) := by
  refine ⟨a, rfl, ?_⟩
  have st : ∀ {i : Nat} {x : V}, xs[i]? = some x → i < 1000000 := fun {i x} h => by
    have := (List.getElem?_eq_some_iff.mp h).1
    omega
  rcases hx with hx | hx
  · refine .inl ⟨⟨xs, rk_l hx⟩, fun D hD => ?_⟩
    exact lc_list (xs := xs) (fun i H' => ∃ acc, acc.length ≤ i ∧ Ex H H' ∧ H' D = some (.lst acc) ∧ Pv i acc H') ⟨[], Nat.le_refl _, Ex.up hD, upd_same, h0 _ (Ex.up hD)⟩ (fun i H' _ ⟨acc, _, e, _, _⟩ => rk_l (rk_keep hx (by simp) e))
      (fun i x H' hi ⟨acc, hacc, e, d, p⟩ => lc_turnR kp hD (st hi) hacc e d (step i x acc H' e p hi)) (fun H' ⟨acc, _, e, d, p⟩ => k H' D acc hD e d p)
  · refine .inr ⟨⟨xs, rk_t hx⟩, fun D hD => ?_⟩
    exact lc_tup (xs := xs) (fun i H' => ∃ acc, acc.length ≤ i ∧ Ex H H' ∧ H' D = some (.lst acc) ∧ Pv i acc H') ⟨[], Nat.le_refl _, Ex.up hD, upd_same, h0 _ (Ex.up hD)⟩ (fun i H' _ ⟨acc, _, e, _, _⟩ => rk_t (rk_keep hx (by simp) e))
      (fun i x H' hi ⟨acc, hacc, e, d, p⟩ => lc_turnR kp hD (st hi) hacc e d (step i x acc H' e p hi)) (fun H' ⟨acc, _, e, d, p⟩ => k H' D acc hD e d p)
theorem kRng1_lcR {n : Int} (h0 : 0 ≤ n) (hn : n ≤ 1000000) (Pv : Nat → List V → Hp → Prop) (kp : LcKeeps H Pv) (h0 : ∀ H', Ex H H' → Pv 0 [] H')
    (step : ∀ (i : Nat) acc H', Ex H H' → Pv i acc H' → (i : Int) < n → LcStepR g tt te vs σ H' (.int i) (fun y H3 => Pv (i + 1) (acc ++ [y]) H3) (fun H3 => Pv (i + 1) acc H3))
    (k : ∀ H' D acc, H D = none → Ex H H' → H' D = some (.lst acc) → Pv n.toNat acc H' → Q (.ref D) H') : kRng1 [.int n] H (rLc g tt te vs σ Q) := by
  refine ⟨n, rfl, by omega, by omega, fun D hD => ?_⟩
  refine lc_range (lo := 0) (n := n.toNat) (fun i H' => ∃ acc, acc.length ≤ i ∧ Ex H H' ∧ H' D = some (.lst acc) ∧ Pv i acc H') ⟨[], Nat.le_refl _, Ex.up hD, upd_same, h0 _ (Ex.up hD)⟩ (fun i H' hi ⟨acc, hacc, e, d, p⟩ => ?_) (fun H' ⟨acc, _, e, d, p⟩ => k H' D acc hD e d p)
  have e0 : (0 : Int) + (i : Int) = (i : Int) := Int.zero_add _
  rw [e0]
  exact lc_turnR kp hD (by omega) hacc e d (step i acc H' e p (by omega))
end
/-! slices -/
section
variable {K : PySem.W.Frag} {σ : L2.St} {H : Hp} {Q : VK} {te : TE} {tl th : TO} {r : V → Option Int → Option Int → Hp → VK → Prop}
@[simp] theorem a_sl : tSl r te tl th σ H Q = te σ H fun x H1 => tl σ H1 fun l H2 => th σ H2 fun u H3 => r x l u H3 Q := rfl
@[simp] theorem a_nopart {P : Option Int → Hp → Prop} : tNoPart σ H P = P none H := rfl
@[simp] theorem a_part {P : Option Int → Hp → Prop} : tPart te σ H P = te σ H fun x H1 => ∃ i, x = .int i ∧ P (some i) H1 := rfl
theorem uSl_t {a : Addr} {xs : List V} {lo hi : Option Int} (h : rk (H a) = .t xs) (hw : ¬ (HT.sIx xs.length 0 lo = 0 ∧ HT.sIx xs.length xs.length hi = xs.length)) (k : ∀ p, H p = none → Q (.ref p) (upd H p (.tup (cutV xs lo hi)))) : uSl K (.ref a) lo hi H Q := by
  unfold uSl
  simp only [h]
  exact .inr ⟨a, xs, rfl, rk_t h, fun z => absurd z hw, fun _ => k⟩
theorem uSl_l {a : Addr} {xs : List V} {lo hi : Option Int} (h : rk (H a) = .l xs) (k : ∀ p, H p = none → Q (.ref p) (upd H p (.lst (cutV xs lo hi)))) : uSl K (.ref a) lo hi H Q := by
  unfold uSl
  simp only [h]
  exact k
end
/-! more statements -/
section
variable {K : PySem.W.Frag} {σ : L2.St} {H : Hp} {Q : VK} {te ta tb tc to td ty : TE} {r r' : R2} {D : Ends} {i : Nat} {t : TA} {tu : TS}
@[simp] theorem a_chain : tChain r r' ta tb tc σ H Q = ta σ H fun x H1 => tb σ H1 fun y H2 => r x y H2 fun z H3 => ∃ k, z = .bl k ∧ (if k = true then tc σ H3 fun w' H4 => r' y w' H4 Q else Q (.bl false) H3) := rfl
@[simp] theorem a_cont : tCont D σ H = D.ct σ H := rfl
@[simp] theorem a_brk : tBreak D σ H = D.bk σ H := rfl
def onSlot (o : Option (Option V)) (P : V → Prop) : Prop := match o with
  | some (some v) => P v
  | _ => False
@[simp] theorem onSlot_some {v : V} {P : V → Prop} : onSlot (some (some v)) P = P v := rfl
@[simp] theorem a_aug {ti : TIp} : tAug i te ti D σ H = onSlot (σ[i]?) fun x => te σ H fun y H1 => ti x y H1 fun z H2 => D.nx (σ.set i (some z)) H2 := by
  unfold tAug onSlot
  refine propext ⟨?_, fun h => ?_⟩
  · rintro ⟨x, e, h⟩
    simp only [e]
    exact h
  · split at h
    · rename_i x e
      exact ⟨x, e, h⟩
    · exact h.elim
@[simp] theorem a_ipi {f : Int → Int → Int} {i j : Int} : ipI f (.int i) (.int j) H Q = Q (.int (f i j)) H := by
  unfold ipI
  simp
@[simp] theorem a_bm {T : String} {r : V → List V → Hp → VK → Prop} : tBM K T r to t σ H Q = to σ H fun x H1 => tyV K T x H1 ∧ t σ H1 fun xs H2 => r x xs H2 Q := rfl
def kTyL (K : PySem.W.Frag) (p : Addr) (H : Hp) : Option HO → Prop
  | some (.lst _) => True
  | _ => tyV K "list" (.ref p) H
@[simp] theorem e_tyL {p : Addr} : tyV K "list" (.ref p) H = kTyL K p H (H p) := by
  unfold kTyL
  split
  · rename_i xs e
    exact propext ⟨fun _ => trivial, fun _ => .inl ⟨rfl, xs, SqL.of e⟩⟩
  · rfl
@[simp] theorem e_tyLl {p : Addr} {xs : List V} : kTyL K p H (some (.lst xs)) = True := rfl
def kApp (l : Addr) (y : V) (H : Hp) (Q : VK) : Option HO → Prop
  | some (.lst xs) => xs.length < sizeLine ∧ Q .non (upd H l (.lst (xs ++ [y])))
  | _ => False
@[simp] theorem e_app {l : Addr} {y : V} : rAppend (.ref l) [y] H Q = kApp l y H Q (H l) := by
  unfold rAppend kApp
  refine propext ⟨?_, fun h => ?_⟩
  · rintro ⟨l', xs, y', e1, e2, e, h⟩
    cases e1
    cases e2
    simp only [e]
    exact h
  · split at h
    · rename_i xs e
      exact ⟨l, xs, y, rfl, rfl, e, h⟩
    · exact h.elim
@[simp] theorem e_appl {l : Addr} {y : V} {xs : List V} : kApp l y H Q (some (.lst xs)) = (xs.length < sizeLine ∧ Q .non (upd H l (.lst (xs ++ [y])))) := rfl
@[simp] theorem a_dnew : tDNewK σ H Q = ∀ p, H p = none → Q (.ref p) (upd H p (.dK [])) := rfl
@[simp] theorem a_disp {trs : List (TE × TE)} : tDisp trs σ H Q = ∀ p, H p = none → tPairs trs σ (upd H p (.dK [])) fun ps H2 => H2 p = some (.dK []) ∧ ∃ kvs : List (Key × V), ps = kvs.map (fun kv => (kV kv.1, kv.2)) ∧ kvs.length ≤ 15 ∧ Q (.ref p) (upd H2 p (.dK (mergeK [] kvs))) := rfl
@[simp] theorem a_pairs0 {P : List (V × V) → Hp → Prop} : tPairs [] σ H P = P [] H := rfl
@[simp] theorem a_pairs {P : List (V × V) → Hp → Prop} {tr : List (TE × TE)} : tPairs ((ta, tb) :: tr) σ H P = ta σ H fun x H1 => tb σ H1 fun y H2 => tPairs tr σ H2 fun ps H3 => P ((x, y) :: ps) H3 := rfl
@[simp] theorem a_lock : tLock tu D σ H = ∃ d u, H d = some u ∧ Mut (some u) ∧ ∀ od, tu ⟨fun σ' H' => H' d = some (.frz od u) ∧ D.nx σ' (upd H' d u), fun v H' => H' d = some (.frz od u) ∧ D.rt v (upd H' d u), fun σ' H' => H' d = some (.frz od u) ∧ D.bk σ' (upd H' d u), fun σ' H' => H' d = some (.frz od u) ∧ D.ct σ' (upd H' d u)⟩ σ (upd H d (.frz od u)) := rfl
@[simp] theorem a_lockE : tLockE te σ H Q = ∃ d u, H d = some u ∧ Mut (some u) ∧ ∀ od, te σ (upd H d (.frz od u)) fun v H' => H' d = some (.frz od u) ∧ Q v (upd H' d u) := rfl
@[simp] theorem a_dpop {Q : VK} : tDPop1 td ty σ H Q = td σ H fun x H1 => ∃ a, x = .ref a ∧ IsD H1 a ∧ ty σ H1 fun y H2 => ∃ kvs k v, H2 a = some (.dK kvs) ∧ y = kV k ∧ valV kvs k = some v ∧ Q v (upd H2 a (.dK (dropK kvs k))) := rfl
end
end U

/-! what the text is, by places; what the top leaves, by names -/
namespace G
open PySem L2
def top (i : Nat) : Stmt := PySem.Challenge.pw_gleanworld_k89_large_memories.main.body.getD i (.Pass ⟨0, 0, 0, 0⟩)
abbrev s_is_integer : Stmt := top 12
abbrev n_is_integer : List Str := ["value"]
abbrev s_is_count : Stmt := top 13
abbrev n_is_count : List Str := ["value"]
abbrev s_is_handle : Stmt := top 14
abbrev n_is_handle : List Str := ["value"]
abbrev s_is_value : Stmt := top 15
abbrev n_is_value : List Str := ["value"]
abbrev s_Entry___init__ : Stmt := inClass (top 17) 0
abbrev n_Entry___init__ : List Str := ["self"]
abbrev s_Entry_row : Stmt := inClass (top 17) 1
abbrev n_Entry_row : List Str := ["self"]
abbrev s_Entry_high : Stmt := inClass (top 17) 2
abbrev n_Entry_high : List Str := ["self"]
abbrev s_Memory___init__ : Stmt := inClass (top 18) 0
abbrev n_Memory___init__ : List Str := ["self", "cells", "slots", "_"]
abbrev s_Memory_end : Stmt := inClass (top 18) 3
abbrev n_Memory_end : List Str := ["self"]
abbrev s_Memory_live : Stmt := inClass (top 18) 4
abbrev n_Memory_live : List Str := ["self", "entry"]
abbrev s_Memory__entry_at : Stmt := inClass (top 18) 5
abbrev n_Memory__entry_at : List Str := ["self", "slot"]
abbrev s_Memory_is_live : Stmt := inClass (top 18) 7
abbrev n_Memory_is_live : List Str := ["self", "handle"]
abbrev s_Memory__entry : Stmt := inClass (top 18) 6
abbrev n_Memory__entry : List Str := ["self", "handle"]
abbrev s_Memory_handle_at : Stmt := inClass (top 18) 8
abbrev n_Memory_handle_at : List Str := ["self", "slot", "entry"]
abbrev s_Memory_fits : Stmt := inClass (top 18) 9
abbrev n_Memory_fits : List Str := ["self", "size"]
abbrev s_Memory_reserve : Stmt := inClass (top 18) 10
abbrev n_Memory_reserve : List Str := ["self", "size", "slot", "entry", "index"]
abbrev s_Memory__spot : Stmt := inClass (top 18) 11
abbrev n_Memory__spot : List Str := ["self", "entry", "k"]
abbrev s_Memory_fill : Stmt := inClass (top 18) 12
abbrev n_Memory_fill : List Str := ["self", "handle", "entry"]
abbrev s_Memory_size : Stmt := inClass (top 18) 14
abbrev n_Memory_size : List Str := ["self", "handle"]
abbrev s_Memory_read : Stmt := inClass (top 18) 15
abbrev n_Memory_read : List Str := ["self", "handle", "k", "entry"]
abbrev s_Memory_write : Stmt := inClass (top 18) 16
abbrev n_Memory_write : List Str := ["self", "handle", "k", "value", "entry", "spot", "old"]
abbrev s_Memory_free : Stmt := inClass (top 18) 21
abbrev n_Memory_free : List Str := ["self", "slot", "entry"]
abbrev s_Memory_start : Stmt := inClass (top 18) 22
abbrev n_Memory_start : List Str := ["self", "slot"]
abbrev s_Memory_place : Stmt := inClass (top 18) 23
abbrev n_Memory_place : List Str := ["self", "handle", "k", "entry"]
abbrev s_Memory_moving : Stmt := inClass (top 18) 24
abbrev n_Memory_moving : List Str := ["self", "slot", "entry"]
abbrev s_Memory_begin_move : Stmt := inClass (top 18) 25
abbrev n_Memory_begin_move : List Str := ["self", "slot", "to", "entry", "other"]
abbrev s_Memory_copy_cell : Stmt := inClass (top 18) 26
abbrev n_Memory_copy_cell : List Str := ["self", "slot", "entry"]
abbrev s_Memory_turn : Stmt := inClass (top 18) 27
abbrev n_Memory_turn : List Str := ["self", "slot", "entry"]
abbrev s_Memory_settle : Stmt := inClass (top 18) 28
abbrev n_Memory_settle : List Str := ["self", "frontier", "entry"]
abbrev s_Memory_state : Stmt := inClass (top 18) 29
abbrev n_Memory_state : List Str := ["self", "entry"]
abbrev s_Memory_take : Stmt := inClass (top 18) 30
abbrev n_Memory_take : List Str := ["self", "state", "arena", "rows", "entry", "row"]
abbrev s_is_row : Stmt := top 19
abbrev n_is_row : List Str := ["value", "stamp", "live", "size", "start", "filled", "to", "done", "mark", "black", "number"]
abbrev s_is_sound : Stmt := top 20
abbrev n_is_sound : List Str := ["rows", "end", "spans", "movers", "_", "live", "size", "start", "filled", "to", "done", "one", "other"]
abbrev s_is_state : Stmt := top 21
abbrev n_is_state : List Str := ["value", "arena", "rows", "end", "item", "row"]
abbrev s_restored : Stmt := top 22
abbrev n_restored : List Str := ["state", "memory"]
abbrev s__law_cell : Stmt := top 24
abbrev n__law_cell : List Str := ["script", "k"]
abbrev s__law_rich : Stmt := top 25
abbrev n__law_rich : List Str := ["cell", "k", "mixed"]
abbrev s__law_reserved : Stmt := top 26
abbrev n__law_reserved : List Str := ["w", "memory", "size", "fits", "handle", "slot", "k"]
abbrev s__law_filled : Stmt := top 27
abbrev n__law_filled : List Str := ["w", "memory", "slot", "one", "handle", "k"]
abbrev s__law_right : Stmt := top 28
abbrev n__law_right : List Str := ["w", "memory", "slot", "one", "handle", "k"]
abbrev s__law_moved : Stmt := top 29
abbrev n__law_moved : List Str := ["w", "memory", "slot", "to", "part", "one", "handle", "k", "at"]
abbrev s_law : Stmt := top 30
abbrev n_law : List Str := ["script", "rich", "w", "memory", "turn", "part", "slots", "slot", "one", "at", "order", "frontier", "k", "other"]
def dd_is_integer : He.DefD := ⟨("is_integer", none), "is_integer", "is_integer", defArgs s_is_integer, defBody s_is_integer, defScope s_is_integer, [], []⟩
def dd_is_count : He.DefD := ⟨("is_count", none), "is_count", "is_count", defArgs s_is_count, defBody s_is_count, defScope s_is_count, [], []⟩
def dd_is_handle : He.DefD := ⟨("is_handle", none), "is_handle", "is_handle", defArgs s_is_handle, defBody s_is_handle, defScope s_is_handle, [], []⟩
def dd_is_value : He.DefD := ⟨("is_value", none), "is_value", "is_value", defArgs s_is_value, defBody s_is_value, defScope s_is_value, [], []⟩
def dd_Entry___init__ : He.DefD := ⟨("Entry", some "__init__"), "__init__", "Entry.__init__", defArgs s_Entry___init__, defBody s_Entry___init__, defScope s_Entry___init__, [], []⟩
def dd_Entry_row : He.DefD := ⟨("Entry", some "row"), "row", "Entry.row", defArgs s_Entry_row, defBody s_Entry_row, defScope s_Entry_row, [], []⟩
def dd_Entry_high : He.DefD := ⟨("Entry", some "high"), "high", "Entry.high", defArgs s_Entry_high, defBody s_Entry_high, defScope s_Entry_high, [], []⟩
def dd_Memory___init__ : He.DefD := ⟨("Memory", some "__init__"), "__init__", "Memory.__init__", defArgs s_Memory___init__, defBody s_Memory___init__, defScope s_Memory___init__, [], []⟩
def dd_Memory_end : He.DefD := ⟨("Memory", some "end"), "end", "Memory.end", defArgs s_Memory_end, defBody s_Memory_end, defScope s_Memory_end, [], []⟩
def dd_Memory_live : He.DefD := ⟨("Memory", some "live"), "live", "Memory.live", defArgs s_Memory_live, defBody s_Memory_live, defScope s_Memory_live, [], []⟩
def dd_Memory__entry_at : He.DefD := ⟨("Memory", some "_entry_at"), "_entry_at", "Memory._entry_at", defArgs s_Memory__entry_at, defBody s_Memory__entry_at, defScope s_Memory__entry_at, [], []⟩
def dd_Memory_is_live : He.DefD := ⟨("Memory", some "is_live"), "is_live", "Memory.is_live", defArgs s_Memory_is_live, defBody s_Memory_is_live, defScope s_Memory_is_live, [], []⟩
def dd_Memory__entry : He.DefD := ⟨("Memory", some "_entry"), "_entry", "Memory._entry", defArgs s_Memory__entry, defBody s_Memory__entry, defScope s_Memory__entry, [], []⟩
def dd_Memory_handle_at : He.DefD := ⟨("Memory", some "handle_at"), "handle_at", "Memory.handle_at", defArgs s_Memory_handle_at, defBody s_Memory_handle_at, defScope s_Memory_handle_at, [], []⟩
def dd_Memory_fits : He.DefD := ⟨("Memory", some "fits"), "fits", "Memory.fits", defArgs s_Memory_fits, defBody s_Memory_fits, defScope s_Memory_fits, [], []⟩
def dd_Memory_reserve : He.DefD := ⟨("Memory", some "reserve"), "reserve", "Memory.reserve", defArgs s_Memory_reserve, defBody s_Memory_reserve, defScope s_Memory_reserve, [], []⟩
def dd_Memory__spot : He.DefD := ⟨("Memory", some "_spot"), "_spot", "Memory._spot", defArgs s_Memory__spot, defBody s_Memory__spot, defScope s_Memory__spot, [], []⟩
def dd_Memory_fill : He.DefD := ⟨("Memory", some "fill"), "fill", "Memory.fill", defArgs s_Memory_fill, defBody s_Memory_fill, defScope s_Memory_fill, [], []⟩
def dd_Memory_size : He.DefD := ⟨("Memory", some "size"), "size", "Memory.size", defArgs s_Memory_size, defBody s_Memory_size, defScope s_Memory_size, [], []⟩
def dd_Memory_read : He.DefD := ⟨("Memory", some "read"), "read", "Memory.read", defArgs s_Memory_read, defBody s_Memory_read, defScope s_Memory_read, [], []⟩
def dd_Memory_write : He.DefD := ⟨("Memory", some "write"), "write", "Memory.write", defArgs s_Memory_write, defBody s_Memory_write, defScope s_Memory_write, [], []⟩
def dd_Memory_free : He.DefD := ⟨("Memory", some "free"), "free", "Memory.free", defArgs s_Memory_free, defBody s_Memory_free, defScope s_Memory_free, [], []⟩
def dd_Memory_start : He.DefD := ⟨("Memory", some "start"), "start", "Memory.start", defArgs s_Memory_start, defBody s_Memory_start, defScope s_Memory_start, [], []⟩
def dd_Memory_place : He.DefD := ⟨("Memory", some "place"), "place", "Memory.place", defArgs s_Memory_place, defBody s_Memory_place, defScope s_Memory_place, [], []⟩
def dd_Memory_moving : He.DefD := ⟨("Memory", some "moving"), "moving", "Memory.moving", defArgs s_Memory_moving, defBody s_Memory_moving, defScope s_Memory_moving, [], []⟩
def dd_Memory_begin_move : He.DefD := ⟨("Memory", some "begin_move"), "begin_move", "Memory.begin_move", defArgs s_Memory_begin_move, defBody s_Memory_begin_move, defScope s_Memory_begin_move, [], []⟩
def dd_Memory_copy_cell : He.DefD := ⟨("Memory", some "copy_cell"), "copy_cell", "Memory.copy_cell", defArgs s_Memory_copy_cell, defBody s_Memory_copy_cell, defScope s_Memory_copy_cell, [], []⟩
def dd_Memory_turn : He.DefD := ⟨("Memory", some "turn"), "turn", "Memory.turn", defArgs s_Memory_turn, defBody s_Memory_turn, defScope s_Memory_turn, [], []⟩
def dd_Memory_settle : He.DefD := ⟨("Memory", some "settle"), "settle", "Memory.settle", defArgs s_Memory_settle, defBody s_Memory_settle, defScope s_Memory_settle, [], []⟩
def dd_Memory_state : He.DefD := ⟨("Memory", some "state"), "state", "Memory.state", defArgs s_Memory_state, defBody s_Memory_state, defScope s_Memory_state, [], []⟩
def dd_Memory_take : He.DefD := ⟨("Memory", some "take"), "take", "Memory.take", defArgs s_Memory_take, defBody s_Memory_take, defScope s_Memory_take, [], []⟩
def dd_is_row : He.DefD := ⟨("is_row", none), "is_row", "is_row", defArgs s_is_row, defBody s_is_row, defScope s_is_row, [], []⟩
def dd_is_sound : He.DefD := ⟨("is_sound", none), "is_sound", "is_sound", defArgs s_is_sound, defBody s_is_sound, defScope s_is_sound, [], []⟩
def dd_is_state : He.DefD := ⟨("is_state", none), "is_state", "is_state", defArgs s_is_state, defBody s_is_state, defScope s_is_state, [], []⟩
def dd_restored : He.DefD := ⟨("restored", none), "restored", "restored", defArgs s_restored, defBody s_restored, defScope s_restored, [], []⟩
def dd__law_cell : He.DefD := ⟨("_law_cell", none), "_law_cell", "_law_cell", defArgs s__law_cell, defBody s__law_cell, defScope s__law_cell, [], []⟩
def dd__law_rich : He.DefD := ⟨("_law_rich", none), "_law_rich", "_law_rich", defArgs s__law_rich, defBody s__law_rich, defScope s__law_rich, [], []⟩
def dd__law_reserved : He.DefD := ⟨("_law_reserved", none), "_law_reserved", "_law_reserved", defArgs s__law_reserved, defBody s__law_reserved, defScope s__law_reserved, [], []⟩
def dd__law_filled : He.DefD := ⟨("_law_filled", none), "_law_filled", "_law_filled", defArgs s__law_filled, defBody s__law_filled, defScope s__law_filled, [], []⟩
def dd__law_right : He.DefD := ⟨("_law_right", none), "_law_right", "_law_right", defArgs s__law_right, defBody s__law_right, defScope s__law_right, [], []⟩
def dd__law_moved : He.DefD := ⟨("_law_moved", none), "_law_moved", "_law_moved", defArgs s__law_moved, defBody s__law_moved, defScope s__law_moved, [], []⟩
def dd_law : He.DefD := ⟨("law", none), "law", "law", defArgs s_law, defBody s_law, defScope s_law, [], []⟩
def fn : List He.DefD := [dd_is_integer, dd_is_count, dd_is_handle, dd_is_value, dd_Entry___init__, dd_Entry_row, dd_Entry_high, dd_Memory___init__, dd_Memory_end, dd_Memory_live, dd_Memory__entry_at, dd_Memory_is_live, dd_Memory__entry, dd_Memory_handle_at, dd_Memory_fits, dd_Memory_reserve, dd_Memory__spot, dd_Memory_fill, dd_Memory_size, dd_Memory_read, dd_Memory_write, dd_Memory_free, dd_Memory_start, dd_Memory_place, dd_Memory_moving, dd_Memory_begin_move, dd_Memory_copy_cell, dd_Memory_turn, dd_Memory_settle, dd_Memory_state, dd_Memory_take, dd_is_row, dd_is_sound, dd_is_state, dd_restored, dd__law_cell, dd__law_rich, dd__law_reserved, dd__law_filled, dd__law_right, dd__law_moved, dd_law]
def fa : List He.Fa := [.free "int", .free "isinstance", .free "bool", .free "tuple", .free "len", .int "MOST_CELLS" 10000, .int "MOST_SLOTS" 1000, .free "range", .exc "NoRoom", .glo "NoRoom", .free "enumerate", .free "any", .free "list", .free "zip", .free "all", .free "sorted", .free "min", .glo "is_integer", .glo "is_count", .glo "is_handle", .glo "is_value", .glo "Entry", .cls "Entry", .mkr "Entry", .meth "Entry" "row", .meth "Entry" "high", .glo "Memory", .cls "Memory", .mkr "Memory", .meth "Memory" "end", .meth "Memory" "live", .meth "Memory" "_entry_at", .meth "Memory" "is_live", .meth "Memory" "_entry", .meth "Memory" "handle_at", .meth "Memory" "fits", .meth "Memory" "reserve", .meth "Memory" "_spot", .meth "Memory" "fill", .meth "Memory" "size", .meth "Memory" "read", .meth "Memory" "write", .meth "Memory" "free", .meth "Memory" "start", .meth "Memory" "place", .meth "Memory" "moving", .meth "Memory" "begin_move", .meth "Memory" "copy_cell", .meth "Memory" "turn", .meth "Memory" "settle", .meth "Memory" "state", .meth "Memory" "take", .glo "is_row", .glo "is_sound", .glo "is_state", .glo "restored", .glo "_law_cell", .glo "_law_rich", .glo "_law_reserved", .glo "_law_filled", .glo "_law_right", .glo "_law_moved", .glo "law", .noat "Entry" "stamp", .noat "Entry" "live", .noat "Entry" "size", .noat "Entry" "start", .noat "Entry" "filled", .noat "Entry" "to", .noat "Entry" "done", .noat "Entry" "mark", .noat "Entry" "black", .noat "Memory" "_arena", .noat "Memory" "_table", .noat "Memory" "_end", .exm "NoRoom" "NoRoom" true]
/-- what stands behind the top -/
structure Sit (K : PySem.W.Frag) (mg : Str → Option Value) : Prop where
  says : He.SaysD fa fn K
  at_ : ∃ h : Heap, K.In h ∧ h.Ns mainGlobals mg
section
variable {K : PySem.W.Frag} {mg : Str → Option Value}
theorem f_free_int (S : Sit K mg) : mg "int" = none := by
  obtain ⟨h, a, b⟩ := S.at_
  exact He.free_ok a b (S.says.fact 0 (f := .free "int") rfl)
theorem f_free_isinstance (S : Sit K mg) : mg "isinstance" = none := by
  obtain ⟨h, a, b⟩ := S.at_
  exact He.free_ok a b (S.says.fact 1 (f := .free "isinstance") rfl)
theorem f_free_bool (S : Sit K mg) : mg "bool" = none := by
  obtain ⟨h, a, b⟩ := S.at_
  exact He.free_ok a b (S.says.fact 2 (f := .free "bool") rfl)
theorem f_free_tuple (S : Sit K mg) : mg "tuple" = none := by
  obtain ⟨h, a, b⟩ := S.at_
  exact He.free_ok a b (S.says.fact 3 (f := .free "tuple") rfl)
theorem f_free_len (S : Sit K mg) : mg "len" = none := by
  obtain ⟨h, a, b⟩ := S.at_
  exact He.free_ok a b (S.says.fact 4 (f := .free "len") rfl)
theorem f_int_MOST_CELLS (S : Sit K mg) : ∃ t, mg "MOST_CELLS" = some (.int 10000 t) := by
  obtain ⟨h, a, b⟩ := S.at_
  exact He.int_ok a b (S.says.fact 5 (f := .int "MOST_CELLS" 10000) rfl)
theorem f_int_MOST_SLOTS (S : Sit K mg) : ∃ t, mg "MOST_SLOTS" = some (.int 1000 t) := by
  obtain ⟨h, a, b⟩ := S.at_
  exact He.int_ok a b (S.says.fact 6 (f := .int "MOST_SLOTS" 1000) rfl)
theorem f_free_range (S : Sit K mg) : mg "range" = none := by
  obtain ⟨h, a, b⟩ := S.at_
  exact He.free_ok a b (S.says.fact 7 (f := .free "range") rfl)
theorem f_exc_NoRoom (S : Sit K mg) : PySem.W.excIn K (He.ga K "NoRoom") He.veBase "ValueError.__new__" = true ∧ PySem.W.keepIn K (.ref (He.ga K "NoRoom")) = true ∧ PySem.W.subIn K (.ref (He.ga K "NoRoom")) (.type "BaseException") = some true ∧ PySem.W.typeIn K (.ref (He.ga K "NoRoom")) = some (.type "type") := He.exc_ok (S.says.fact 8 (f := .exc "NoRoom") rfl)
theorem f_glo_NoRoom (S : Sit K mg) : mg "NoRoom" = some (.ref (He.ga K "NoRoom")) := by
  obtain ⟨h, a, b⟩ := S.at_
  exact He.glo_ok a b (S.says.fact 9 (f := .glo "NoRoom") rfl)
theorem f_free_enumerate (S : Sit K mg) : mg "enumerate" = none := by
  obtain ⟨h, a, b⟩ := S.at_
  exact He.free_ok a b (S.says.fact 10 (f := .free "enumerate") rfl)
theorem f_free_any (S : Sit K mg) : mg "any" = none := by
  obtain ⟨h, a, b⟩ := S.at_
  exact He.free_ok a b (S.says.fact 11 (f := .free "any") rfl)
theorem f_free_list (S : Sit K mg) : mg "list" = none := by
  obtain ⟨h, a, b⟩ := S.at_
  exact He.free_ok a b (S.says.fact 12 (f := .free "list") rfl)
theorem f_free_zip (S : Sit K mg) : mg "zip" = none := by
  obtain ⟨h, a, b⟩ := S.at_
  exact He.free_ok a b (S.says.fact 13 (f := .free "zip") rfl)
theorem f_free_all (S : Sit K mg) : mg "all" = none := by
  obtain ⟨h, a, b⟩ := S.at_
  exact He.free_ok a b (S.says.fact 14 (f := .free "all") rfl)
theorem f_free_sorted (S : Sit K mg) : mg "sorted" = none := by
  obtain ⟨h, a, b⟩ := S.at_
  exact He.free_ok a b (S.says.fact 15 (f := .free "sorted") rfl)
theorem f_free_min (S : Sit K mg) : mg "min" = none := by
  obtain ⟨h, a, b⟩ := S.at_
  exact He.free_ok a b (S.says.fact 16 (f := .free "min") rfl)
theorem f_glo_is_integer (S : Sit K mg) : mg "is_integer" = some (.ref (He.ga K "is_integer")) := by
  obtain ⟨h, a, b⟩ := S.at_
  exact He.glo_ok a b (S.says.fact 17 (f := .glo "is_integer") rfl)
theorem f_glo_is_count (S : Sit K mg) : mg "is_count" = some (.ref (He.ga K "is_count")) := by
  obtain ⟨h, a, b⟩ := S.at_
  exact He.glo_ok a b (S.says.fact 18 (f := .glo "is_count") rfl)
theorem f_glo_is_handle (S : Sit K mg) : mg "is_handle" = some (.ref (He.ga K "is_handle")) := by
  obtain ⟨h, a, b⟩ := S.at_
  exact He.glo_ok a b (S.says.fact 19 (f := .glo "is_handle") rfl)
theorem f_glo_is_value (S : Sit K mg) : mg "is_value" = some (.ref (He.ga K "is_value")) := by
  obtain ⟨h, a, b⟩ := S.at_
  exact He.glo_ok a b (S.says.fact 20 (f := .glo "is_value") rfl)
theorem f_glo_Entry (S : Sit K mg) : mg "Entry" = some (.ref (He.ga K "Entry")) := by
  obtain ⟨h, a, b⟩ := S.at_
  exact He.glo_ok a b (S.says.fact 21 (f := .glo "Entry") rfl)
theorem f_cls_Entry (S : Sit K mg) : Cls K (He.ga K "Entry") := He.cls_ok (S.says.fact 22 (f := .cls "Entry") rfl)
theorem f_mkr_Entry (S : Sit K mg) : Mk K (He.ga K "Entry") (He.ma K (He.ga K "Entry") "__init__") := He.mkr_ok (S.says.fact 23 (f := .mkr "Entry") rfl)
theorem f_meth_Entry_row (S : Sit K mg) : Meth K (He.ga K "Entry") "row" (He.ma K (He.ga K "Entry") "row") := He.meth_ok (S.says.fact 24 (f := .meth "Entry" "row") rfl)
theorem f_meth_Entry_high (S : Sit K mg) : Meth K (He.ga K "Entry") "high" (He.ma K (He.ga K "Entry") "high") := He.meth_ok (S.says.fact 25 (f := .meth "Entry" "high") rfl)
theorem f_glo_Memory (S : Sit K mg) : mg "Memory" = some (.ref (He.ga K "Memory")) := by
  obtain ⟨h, a, b⟩ := S.at_
  exact He.glo_ok a b (S.says.fact 26 (f := .glo "Memory") rfl)
theorem f_cls_Memory (S : Sit K mg) : Cls K (He.ga K "Memory") := He.cls_ok (S.says.fact 27 (f := .cls "Memory") rfl)
theorem f_mkr_Memory (S : Sit K mg) : Mk K (He.ga K "Memory") (He.ma K (He.ga K "Memory") "__init__") := He.mkr_ok (S.says.fact 28 (f := .mkr "Memory") rfl)
theorem f_meth_Memory_end (S : Sit K mg) : Meth K (He.ga K "Memory") "end" (He.ma K (He.ga K "Memory") "end") := He.meth_ok (S.says.fact 29 (f := .meth "Memory" "end") rfl)
theorem f_meth_Memory_live (S : Sit K mg) : Meth K (He.ga K "Memory") "live" (He.ma K (He.ga K "Memory") "live") := He.meth_ok (S.says.fact 30 (f := .meth "Memory" "live") rfl)
theorem f_meth_Memory__entry_at (S : Sit K mg) : Meth K (He.ga K "Memory") "_entry_at" (He.ma K (He.ga K "Memory") "_entry_at") := He.meth_ok (S.says.fact 31 (f := .meth "Memory" "_entry_at") rfl)
theorem f_meth_Memory_is_live (S : Sit K mg) : Meth K (He.ga K "Memory") "is_live" (He.ma K (He.ga K "Memory") "is_live") := He.meth_ok (S.says.fact 32 (f := .meth "Memory" "is_live") rfl)
theorem f_meth_Memory__entry (S : Sit K mg) : Meth K (He.ga K "Memory") "_entry" (He.ma K (He.ga K "Memory") "_entry") := He.meth_ok (S.says.fact 33 (f := .meth "Memory" "_entry") rfl)
theorem f_meth_Memory_handle_at (S : Sit K mg) : Meth K (He.ga K "Memory") "handle_at" (He.ma K (He.ga K "Memory") "handle_at") := He.meth_ok (S.says.fact 34 (f := .meth "Memory" "handle_at") rfl)
theorem f_meth_Memory_fits (S : Sit K mg) : Meth K (He.ga K "Memory") "fits" (He.ma K (He.ga K "Memory") "fits") := He.meth_ok (S.says.fact 35 (f := .meth "Memory" "fits") rfl)
theorem f_meth_Memory_reserve (S : Sit K mg) : Meth K (He.ga K "Memory") "reserve" (He.ma K (He.ga K "Memory") "reserve") := He.meth_ok (S.says.fact 36 (f := .meth "Memory" "reserve") rfl)
theorem f_meth_Memory__spot (S : Sit K mg) : Meth K (He.ga K "Memory") "_spot" (He.ma K (He.ga K "Memory") "_spot") := He.meth_ok (S.says.fact 37 (f := .meth "Memory" "_spot") rfl)
theorem f_meth_Memory_fill (S : Sit K mg) : Meth K (He.ga K "Memory") "fill" (He.ma K (He.ga K "Memory") "fill") := He.meth_ok (S.says.fact 38 (f := .meth "Memory" "fill") rfl)
theorem f_meth_Memory_size (S : Sit K mg) : Meth K (He.ga K "Memory") "size" (He.ma K (He.ga K "Memory") "size") := He.meth_ok (S.says.fact 39 (f := .meth "Memory" "size") rfl)
theorem f_meth_Memory_read (S : Sit K mg) : Meth K (He.ga K "Memory") "read" (He.ma K (He.ga K "Memory") "read") := He.meth_ok (S.says.fact 40 (f := .meth "Memory" "read") rfl)
theorem f_meth_Memory_write (S : Sit K mg) : Meth K (He.ga K "Memory") "write" (He.ma K (He.ga K "Memory") "write") := He.meth_ok (S.says.fact 41 (f := .meth "Memory" "write") rfl)
theorem f_meth_Memory_free (S : Sit K mg) : Meth K (He.ga K "Memory") "free" (He.ma K (He.ga K "Memory") "free") := He.meth_ok (S.says.fact 42 (f := .meth "Memory" "free") rfl)
theorem f_meth_Memory_start (S : Sit K mg) : Meth K (He.ga K "Memory") "start" (He.ma K (He.ga K "Memory") "start") := He.meth_ok (S.says.fact 43 (f := .meth "Memory" "start") rfl)
theorem f_meth_Memory_place (S : Sit K mg) : Meth K (He.ga K "Memory") "place" (He.ma K (He.ga K "Memory") "place") := He.meth_ok (S.says.fact 44 (f := .meth "Memory" "place") rfl)
theorem f_meth_Memory_moving (S : Sit K mg) : Meth K (He.ga K "Memory") "moving" (He.ma K (He.ga K "Memory") "moving") := He.meth_ok (S.says.fact 45 (f := .meth "Memory" "moving") rfl)
theorem f_meth_Memory_begin_move (S : Sit K mg) : Meth K (He.ga K "Memory") "begin_move" (He.ma K (He.ga K "Memory") "begin_move") := He.meth_ok (S.says.fact 46 (f := .meth "Memory" "begin_move") rfl)
theorem f_meth_Memory_copy_cell (S : Sit K mg) : Meth K (He.ga K "Memory") "copy_cell" (He.ma K (He.ga K "Memory") "copy_cell") := He.meth_ok (S.says.fact 47 (f := .meth "Memory" "copy_cell") rfl)
theorem f_meth_Memory_turn (S : Sit K mg) : Meth K (He.ga K "Memory") "turn" (He.ma K (He.ga K "Memory") "turn") := He.meth_ok (S.says.fact 48 (f := .meth "Memory" "turn") rfl)
theorem f_meth_Memory_settle (S : Sit K mg) : Meth K (He.ga K "Memory") "settle" (He.ma K (He.ga K "Memory") "settle") := He.meth_ok (S.says.fact 49 (f := .meth "Memory" "settle") rfl)
theorem f_meth_Memory_state (S : Sit K mg) : Meth K (He.ga K "Memory") "state" (He.ma K (He.ga K "Memory") "state") := He.meth_ok (S.says.fact 50 (f := .meth "Memory" "state") rfl)
theorem f_meth_Memory_take (S : Sit K mg) : Meth K (He.ga K "Memory") "take" (He.ma K (He.ga K "Memory") "take") := He.meth_ok (S.says.fact 51 (f := .meth "Memory" "take") rfl)
theorem f_glo_is_row (S : Sit K mg) : mg "is_row" = some (.ref (He.ga K "is_row")) := by
  obtain ⟨h, a, b⟩ := S.at_
  exact He.glo_ok a b (S.says.fact 52 (f := .glo "is_row") rfl)
theorem f_glo_is_sound (S : Sit K mg) : mg "is_sound" = some (.ref (He.ga K "is_sound")) := by
  obtain ⟨h, a, b⟩ := S.at_
  exact He.glo_ok a b (S.says.fact 53 (f := .glo "is_sound") rfl)
theorem f_glo_is_state (S : Sit K mg) : mg "is_state" = some (.ref (He.ga K "is_state")) := by
  obtain ⟨h, a, b⟩ := S.at_
  exact He.glo_ok a b (S.says.fact 54 (f := .glo "is_state") rfl)
theorem f_glo_restored (S : Sit K mg) : mg "restored" = some (.ref (He.ga K "restored")) := by
  obtain ⟨h, a, b⟩ := S.at_
  exact He.glo_ok a b (S.says.fact 55 (f := .glo "restored") rfl)
theorem f_glo__law_cell (S : Sit K mg) : mg "_law_cell" = some (.ref (He.ga K "_law_cell")) := by
  obtain ⟨h, a, b⟩ := S.at_
  exact He.glo_ok a b (S.says.fact 56 (f := .glo "_law_cell") rfl)
theorem f_glo__law_rich (S : Sit K mg) : mg "_law_rich" = some (.ref (He.ga K "_law_rich")) := by
  obtain ⟨h, a, b⟩ := S.at_
  exact He.glo_ok a b (S.says.fact 57 (f := .glo "_law_rich") rfl)
theorem f_glo__law_reserved (S : Sit K mg) : mg "_law_reserved" = some (.ref (He.ga K "_law_reserved")) := by
  obtain ⟨h, a, b⟩ := S.at_
  exact He.glo_ok a b (S.says.fact 58 (f := .glo "_law_reserved") rfl)
theorem f_glo__law_filled (S : Sit K mg) : mg "_law_filled" = some (.ref (He.ga K "_law_filled")) := by
  obtain ⟨h, a, b⟩ := S.at_
  exact He.glo_ok a b (S.says.fact 59 (f := .glo "_law_filled") rfl)
theorem f_glo__law_right (S : Sit K mg) : mg "_law_right" = some (.ref (He.ga K "_law_right")) := by
  obtain ⟨h, a, b⟩ := S.at_
  exact He.glo_ok a b (S.says.fact 60 (f := .glo "_law_right") rfl)
theorem f_glo__law_moved (S : Sit K mg) : mg "_law_moved" = some (.ref (He.ga K "_law_moved")) := by
  obtain ⟨h, a, b⟩ := S.at_
  exact He.glo_ok a b (S.says.fact 61 (f := .glo "_law_moved") rfl)
theorem f_glo_law (S : Sit K mg) : mg "law" = some (.ref (He.ga K "law")) := by
  obtain ⟨h, a, b⟩ := S.at_
  exact He.glo_ok a b (S.says.fact 62 (f := .glo "law") rfl)
theorem f_noat_Entry_stamp (S : Sit K mg) : NoAttr K (He.ga K "Entry") "stamp" := He.noat_ok (S.says.fact 63 (f := .noat "Entry" "stamp") rfl)
theorem f_noat_Entry_live (S : Sit K mg) : NoAttr K (He.ga K "Entry") "live" := He.noat_ok (S.says.fact 64 (f := .noat "Entry" "live") rfl)
theorem f_noat_Entry_size (S : Sit K mg) : NoAttr K (He.ga K "Entry") "size" := He.noat_ok (S.says.fact 65 (f := .noat "Entry" "size") rfl)
theorem f_noat_Entry_start (S : Sit K mg) : NoAttr K (He.ga K "Entry") "start" := He.noat_ok (S.says.fact 66 (f := .noat "Entry" "start") rfl)
theorem f_noat_Entry_filled (S : Sit K mg) : NoAttr K (He.ga K "Entry") "filled" := He.noat_ok (S.says.fact 67 (f := .noat "Entry" "filled") rfl)
theorem f_noat_Entry_to (S : Sit K mg) : NoAttr K (He.ga K "Entry") "to" := He.noat_ok (S.says.fact 68 (f := .noat "Entry" "to") rfl)
theorem f_noat_Entry_done (S : Sit K mg) : NoAttr K (He.ga K "Entry") "done" := He.noat_ok (S.says.fact 69 (f := .noat "Entry" "done") rfl)
theorem f_noat_Entry_mark (S : Sit K mg) : NoAttr K (He.ga K "Entry") "mark" := He.noat_ok (S.says.fact 70 (f := .noat "Entry" "mark") rfl)
theorem f_noat_Entry_black (S : Sit K mg) : NoAttr K (He.ga K "Entry") "black" := He.noat_ok (S.says.fact 71 (f := .noat "Entry" "black") rfl)
theorem f_noat_Memory__arena (S : Sit K mg) : NoAttr K (He.ga K "Memory") "_arena" := He.noat_ok (S.says.fact 72 (f := .noat "Memory" "_arena") rfl)
theorem f_noat_Memory__table (S : Sit K mg) : NoAttr K (He.ga K "Memory") "_table" := He.noat_ok (S.says.fact 73 (f := .noat "Memory" "_table") rfl)
theorem f_noat_Memory__end (S : Sit K mg) : NoAttr K (He.ga K "Memory") "_end" := He.noat_ok (S.says.fact 74 (f := .noat "Memory" "_end") rfl)
theorem f_exm_NoRoom_NoRoom_true (S : Sit K mg) : PySem.W.exmOne K (.ref (He.ga K "NoRoom")) (.ref (He.ga K "NoRoom")) = some true := He.exm_ok (S.says.fact 75 (f := .exm "NoRoom" "NoRoom" true) rfl)
/-- the classes, whoever asks -/
class SitK (K : PySem.W.Frag) : Prop where
  h : ∃ mg, Sit K mg
@[simp] theorem c_f_cls_Entry [I : SitK K] : Cls K (He.ga K "Entry") := let ⟨_, S⟩ := I.h; f_cls_Entry S
@[simp] theorem c_f_cls_Memory [I : SitK K] : Cls K (He.ga K "Memory") := let ⟨_, S⟩ := I.h; f_cls_Memory S
@[simp] theorem c_f_noat_Entry_stamp [I : SitK K] : NoAttr K (He.ga K "Entry") "stamp" := let ⟨_, S⟩ := I.h; f_noat_Entry_stamp S
@[simp] theorem c_f_noat_Entry_live [I : SitK K] : NoAttr K (He.ga K "Entry") "live" := let ⟨_, S⟩ := I.h; f_noat_Entry_live S
@[simp] theorem c_f_noat_Entry_size [I : SitK K] : NoAttr K (He.ga K "Entry") "size" := let ⟨_, S⟩ := I.h; f_noat_Entry_size S
@[simp] theorem c_f_noat_Entry_start [I : SitK K] : NoAttr K (He.ga K "Entry") "start" := let ⟨_, S⟩ := I.h; f_noat_Entry_start S
@[simp] theorem c_f_noat_Entry_filled [I : SitK K] : NoAttr K (He.ga K "Entry") "filled" := let ⟨_, S⟩ := I.h; f_noat_Entry_filled S
@[simp] theorem c_f_noat_Entry_to [I : SitK K] : NoAttr K (He.ga K "Entry") "to" := let ⟨_, S⟩ := I.h; f_noat_Entry_to S
@[simp] theorem c_f_noat_Entry_done [I : SitK K] : NoAttr K (He.ga K "Entry") "done" := let ⟨_, S⟩ := I.h; f_noat_Entry_done S
@[simp] theorem c_f_noat_Entry_mark [I : SitK K] : NoAttr K (He.ga K "Entry") "mark" := let ⟨_, S⟩ := I.h; f_noat_Entry_mark S
@[simp] theorem c_f_noat_Entry_black [I : SitK K] : NoAttr K (He.ga K "Entry") "black" := let ⟨_, S⟩ := I.h; f_noat_Entry_black S
@[simp] theorem c_f_noat_Memory__arena [I : SitK K] : NoAttr K (He.ga K "Memory") "_arena" := let ⟨_, S⟩ := I.h; f_noat_Memory__arena S
@[simp] theorem c_f_noat_Memory__table [I : SitK K] : NoAttr K (He.ga K "Memory") "_table" := let ⟨_, S⟩ := I.h; f_noat_Memory__table S
@[simp] theorem c_f_noat_Memory__end [I : SitK K] : NoAttr K (He.ga K "Memory") "_end" := let ⟨_, S⟩ := I.h; f_noat_Memory__end S
@[simp] theorem c_f_exm_NoRoom_NoRoom_true [I : SitK K] : PySem.W.exmOne K (.ref (He.ga K "NoRoom")) (.ref (He.ga K "NoRoom")) = some true := let ⟨_, S⟩ := I.h; f_exm_NoRoom_NoRoom_true S
end
end G

namespace G
open PySem L2 U
/-! ### the mirror -/
structure Ent where
  stamp : Int := 0
  live : Bool := false
  size : Int := 0
  start : Int := 0
  filled : Int := 0
  to : Option Int := none
  done : Int := 0
  mark : Int := 0
  black : Bool := false
def optI : Option Int → V
  | none => .non
  | some i => .int i
@[simp] theorem optI_none : optI none = .non := rfl
@[simp] theorem optI_some (i : Int) : optI (some i) = .int i := rfl
def entF (e : Ent) : List (Str × V) := [("stamp", .int e.stamp), ("live", .bl e.live), ("size", .int e.size), ("start", .int e.start), ("filled", .int e.filled), ("to", optI e.to), ("done", .int e.done), ("mark", .int e.mark), ("black", .bl e.black)]
def rowV (e : Ent) : List V := [.int e.stamp, .bl e.live, .int e.size, .int e.start, .int e.filled, optI e.to, .int e.done, .int e.mark, .bl e.black]
def memF (la lt : Addr) (n : Int) : List (Str × V) := [("_arena", .ref la), ("_table", .ref lt), ("_end", .int n)]
structure Mem where
  arena : List V
  tab : List Ent
  fin : Int
structure MA where
  m : Addr
  la : Addr
  lt : Addr
  ea : List Addr
def MA.foot (A : MA) : List Addr := A.m :: A.la :: A.lt :: A.ea
abbrev CM (K : PySem.W.Frag) : Addr := He.ga K "Memory"
abbrev CE (K : PySem.W.Frag) : Addr := He.ga K "Entry"
def EntAt (K : PySem.W.Frag) (H : Hp) (a : Addr) (e : Ent) : Prop := ∃ dx, H a = some (.ins (CE K) dx (entF e))
structure MemAt (K : PySem.W.Frag) (H : Hp) (A : MA) (M : Mem) : Prop where
  hm : ∃ dx, H A.m = some (.ins (CM K) dx (memF A.la A.lt M.fin))
  ha : H A.la = some (.lst M.arena)
  ht : H A.lt = some (.lst (A.ea.map V.ref))
  len : A.ea.length = M.tab.length
  he : ∀ (i : Nat) a e, A.ea[i]? = some a → M.tab[i]? = some e → EntAt K H a e
  nd : A.ea.Nodup
  ne : A.la ≠ A.lt
  mne : A.m ∉ A.ea
  al : M.arena.length ≤ 10000
  tl : M.tab.length ≤ 1000
section
variable {K : PySem.W.Frag} {H H' : Hp} {A : MA} {M : Mem}
theorem MemAt.mla (h : MemAt K H A M) : A.m ≠ A.la := by
  obtain ⟨dx, hm⟩ := h.hm
  exact ne_of hm h.ha (by intro z; cases z)
theorem MemAt.mlt (h : MemAt K H A M) : A.m ≠ A.lt := by
  obtain ⟨dx, hm⟩ := h.hm
  exact ne_of hm h.ht (by intro z; cases z)
theorem MemAt.ent (h : MemAt K H A M) {i : Nat} {a : Addr} (ha : A.ea[i]? = some a) : ∃ e dx, M.tab[i]? = some e ∧ H a = some (.ins (CE K) dx (entF e)) := by
  have hi := (List.getElem?_eq_some_iff.mp ha).1
  have hi2 : i < M.tab.length := by rw [← h.len]; exact hi
  obtain ⟨dx, e⟩ := h.he i a _ ha (List.getElem?_eq_getElem hi2)
  exact ⟨_, dx, List.getElem?_eq_getElem hi2, e⟩
theorem MemAt.enta (h : MemAt K H A M) {i : Nat} {e : Ent} (he : M.tab[i]? = some e) : ∃ a dx, A.ea[i]? = some a ∧ H a = some (.ins (CE K) dx (entF e)) := by
  have hi := (List.getElem?_eq_some_iff.mp he).1
  have hi2 : i < A.ea.length := by rw [h.len]; exact hi
  obtain ⟨dx, e2⟩ := h.he i _ e (List.getElem?_eq_getElem hi2) he
  exact ⟨_, dx, List.getElem?_eq_getElem hi2, e2⟩
theorem MemAt.ela (h : MemAt K H A M) {a : Addr} (ha : a ∈ A.ea) : a ≠ A.la ∧ a ≠ A.lt ∧ a ≠ A.m := by
  obtain ⟨i, hi⟩ := List.getElem?_of_mem ha
  obtain ⟨e, dx, _, he⟩ := h.ent hi
  exact ⟨ne_of he h.ha (by intro z; cases z), ne_of he h.ht (by intro z; cases z), fun z => h.mne (z ▸ ha)⟩
/-- nothing of it is touched -/
theorem MemAt.frame (h : MemAt K H A M) (k : ∀ b o, b ∈ A.foot → H b = some o → H' b = some o) : MemAt K H' A M where
  hm := let ⟨dx, e⟩ := h.hm; ⟨dx, k _ _ (by simp [MA.foot]) e⟩
  ha := k _ _ (by simp [MA.foot]) h.ha
  ht := k _ _ (by simp [MA.foot]) h.ht
  len := h.len
  he := fun i a e ha he => let ⟨dx, q⟩ := h.he i a e ha he; ⟨dx, k _ _ (by simp [MA.foot, List.mem_of_getElem? ha]) q⟩
  nd := h.nd
  ne := h.ne
  mne := h.mne
  al := h.al
  tl := h.tl
theorem MemAt.ex (h : MemAt K H A M) (e : Ex H H') : MemAt K H' A M := h.frame fun b o _ q => e.at q
/-- an entry is changed -/
theorem MemAt.setEnt (h : MemAt K H A M) {i : Nat} {a dx : Addr} {e : Ent} (ha : A.ea[i]? = some a) : MemAt K (upd H a (.ins (CE K) dx (entF e))) A { M with tab := M.tab.set i e } := by
  have hi := (List.getElem?_eq_some_iff.mp ha).1
  have hi2 : i < M.tab.length := by rw [← h.len]; exact hi
  obtain ⟨n1, n2, n3⟩ := h.ela (List.mem_of_getElem? ha)
  refine ⟨?_, ?_, ?_, ?_, fun j b e' hb he' => ?_, h.nd, h.ne, h.mne, h.al, ?_⟩
  · obtain ⟨dm, e2⟩ := h.hm
    exact ⟨dm, by rw [upd_ne n3.symm]; exact e2⟩
  · rw [upd_ne n1.symm]; exact h.ha
  · rw [upd_ne n2.symm]; exact h.ht
  · rw [List.length_set]; exact h.len
  · by_cases hij : j = i
    · subst hij
      rw [ha] at hb
      cases hb
      rw [List.getElem?_set_self hi2] at he'
      cases he'
      exact ⟨dx, upd_same⟩
    · rw [List.getElem?_set_ne (Ne.symm hij)] at he'
      obtain ⟨dy, q⟩ := h.he j b e' hb he'
      have nb : b ≠ a := fun z => hij (nd_ix h.nd hb (by rw [z]; exact ha))
      exact ⟨dy, by rw [upd_ne nb]; exact q⟩
  · rw [List.length_set]; exact h.tl
theorem MemAt.setArena (h : MemAt K H A M) {xs : List V} (hl : xs.length ≤ 10000) : MemAt K (upd H A.la (.lst xs)) A { M with arena := xs } := by
  refine ⟨?_, upd_same, ?_, h.len, fun j b e' hb he' => ?_, h.nd, h.ne, h.mne, hl, h.tl⟩
  · obtain ⟨dm, e2⟩ := h.hm
    exact ⟨dm, by rw [upd_ne h.mla]; exact e2⟩
  · rw [upd_ne h.ne.symm]; exact h.ht
  · obtain ⟨dy, q⟩ := h.he j b e' hb he'
    exact ⟨dy, by rw [upd_ne (h.ela (List.mem_of_getElem? hb)).1]; exact q⟩
theorem MemAt.setFin (h : MemAt K H A M) {dx : Addr} {n : Int} : MemAt K (upd H A.m (.ins (CM K) dx (memF A.la A.lt n))) A { M with fin := n } := by
  refine ⟨⟨dx, upd_same⟩, ?_, ?_, h.len, fun j b e' hb he' => ?_, h.nd, h.ne, h.mne, h.al, h.tl⟩
  · rw [upd_ne h.mla.symm]; exact h.ha
  · rw [upd_ne h.mlt.symm]; exact h.ht
  · obtain ⟨dy, q⟩ := h.he j b e' hb he'
    exact ⟨dy, by rw [upd_ne (h.ela (List.mem_of_getElem? hb)).2.2]; exact q⟩
end
/-! ### values -/
def isCntV : V → Bool
  | .int i => decide (0 ≤ i)
  | _ => false
@[simp] theorem isCntV_int (i : Int) : isCntV (.int i) = decide (0 ≤ i) := rfl
@[simp] theorem isCntV_non : isCntV .non = false := rfl
@[simp] theorem isCntV_bl (b : Bool) : isCntV (.bl b) = false := rfl
@[simp] theorem isCntV_str (b : Str) : isCntV (.str b) = false := rfl
@[simp] theorem isCntV_ref (b : Addr) : isCntV (.ref b) = false := rfl
@[simp] def q_is_integer (_ : PySem.W.Frag) : V → Hp → VK → XK → Prop := fun v H Q _ => Known H v ∧ Q (.bl (isIntV v)) H
@[simp] def q_is_count (_ : PySem.W.Frag) : V → Hp → VK → XK → Prop := fun v H Q _ => Known H v ∧ Q (.bl (isCntV v)) H
/-- a handle's pair stands at a -/
def HdlAt (H : Hp) (a : Addr) (i s : Int) : Prop := H a = some (.tup [.int i, .int s])
@[simp] def q_is_handle (_ : PySem.W.Frag) : V → Hp → VK → XK → Prop := fun v H Q _ => match v with
  | .ref a => (match rk (H a) with
    | .t [.int i, .int j] => Q (.bl (decide (0 ≤ i) && decide (0 ≤ j))) H
    | _ => False)
  | v => Known H v ∧ Q (.bl false) H
@[simp] def q_is_value (_ : PySem.W.Frag) : V → Hp → VK → XK → Prop := fun v H Q _ => match v with
  | .ref a => (match rk (H a) with
    | .t [.int i, .int j] => Q (.bl (decide (0 ≤ i) && decide (0 ≤ j))) H
    | _ => False)
  | .non => Q (.bl true) H
  | v => Known H v ∧ Q (.bl (isIntV v)) H
/-! ### entries -/
def q_Entry___init__ (K : PySem.W.Frag) : V → Hp → VK → XK → Prop := fun p H Q _ => ∃ (a dx : Addr), p = .ref a ∧ H a = some (.ins (CE K) dx []) ∧ Q .non (upd H a (.ins (CE K) dx (entF {})))
def q_Entry_row (K : PySem.W.Frag) : V → Hp → VK → XK → Prop := fun p H Q _ => ∃ (a : Addr) (e : Ent), p = .ref a ∧ EntAt K H a e ∧ ∀ t, H t = none → Q (.ref t) (upd H t (.tup (rowV e)))
def q_Entry_high (K : PySem.W.Frag) : V → Hp → VK → XK → Prop := fun p H Q _ => ∃ (a : Addr) (e : Ent), p = .ref a ∧ EntAt K H a e ∧ Q (.int (e.start + e.size)) H
/-! ### the memory's methods -/
def Mem.liveN (M : Mem) : Nat := (M.tab.filter (·.live)).length
def Mem.fits (M : Mem) (n : Int) : Bool := decide (M.fin + n ≤ M.arena.length) && decide (M.liveN < M.tab.length)
def Ent.spot (e : Ent) (k : Int) : Int := match e.to with
  | some t => if k < e.done then t + k else e.start + k
  | none => e.start + k
def q_Memory___init__ (K : PySem.W.Frag) : V → V → V → Hp → VK → XK → Prop := fun p c s H Q _ => ∃ (a dx : Addr) (n m : Nat), p = .ref a ∧ c = .int n ∧ s = .int m ∧ H a = some (.ins (CM K) dx []) ∧ 1 ≤ n ∧ n ≤ 10000 ∧ 1 ≤ m ∧ m ≤ 1000 ∧
  ∀ H' A, A.m = a → MemAt K H' A ⟨List.replicate n .non, List.replicate m {}, 0⟩ → Out [a] H H' → (∀ b ∈ A.la :: A.lt :: A.ea, H b = none) → Q .non H'
def q_Memory_end (K : PySem.W.Frag) : V → Hp → VK → XK → Prop := fun p H Q _ => ∃ (A : MA) (M : Mem), p = .ref A.m ∧ MemAt K H A M ∧ Q (.int M.fin) H
def q_Memory_live (K : PySem.W.Frag) : V → Hp → VK → XK → Prop := fun p H Q _ => ∃ (A : MA) (M : Mem), p = .ref A.m ∧ MemAt K H A M ∧ ∀ H', Ex H H' → Q (.int M.liveN) H'
def q_Memory__entry_at (K : PySem.W.Frag) : V → V → Hp → VK → XK → Prop := fun m s H Q _ => ∃ (A : MA) (M : Mem) (i : Nat) (a : Addr) (e : Ent), m = .ref A.m ∧ s = .int (i : Nat) ∧ MemAt K H A M ∧ A.ea[i]? = some a ∧ M.tab[i]? = some e ∧ e.live = true ∧ Q (.ref a) H
def q_Memory_is_live (K : PySem.W.Frag) : V → V → Hp → VK → XK → Prop := fun m h H Q _ => ∃ (A : MA) (M : Mem) (ah : Addr) (i : Nat) (s : Int) (e : Ent), m = .ref A.m ∧ h = .ref ah ∧ MemAt K H A M ∧ rk (H ah) = .t [.int i, .int s] ∧ 0 ≤ s ∧ M.tab[i]? = some e ∧ Q (.bl (e.live && decide (e.stamp = s))) H
/-- the handle of a live object -/
structure Hdl (K : PySem.W.Frag) (H : Hp) (A : MA) (M : Mem) (ah : Addr) (i : Nat) (a : Addr) (e : Ent) : Prop where
  mem : MemAt K H A M
  rd : rk (H ah) = .t [.int i, .int e.stamp]
  sn : 0 ≤ e.stamp
  at_ : A.ea[i]? = some a
  ent : M.tab[i]? = some e
  live : e.live = true
def q_Memory__entry (K : PySem.W.Frag) : V → V → Hp → VK → XK → Prop := fun m h H Q _ => ∃ A M ah i a e, m = .ref A.m ∧ h = .ref ah ∧ Hdl K H A M ah i a e ∧ Q (.ref a) H
def q_Memory_handle_at (K : PySem.W.Frag) : V → V → Hp → VK → XK → Prop := fun m s H Q _ => ∃ (A : MA) (M : Mem) (i : Nat) (e : Ent), m = .ref A.m ∧ s = .int (i : Nat) ∧ MemAt K H A M ∧ M.tab[i]? = some e ∧ e.live = true ∧ ∀ t, H t = none → Q (.ref t) (upd H t (.tup [.int i, .int e.stamp]))
def q_Memory_fits (K : PySem.W.Frag) : V → V → Hp → VK → XK → Prop := fun m s H Q _ => ∃ (A : MA) (M : Mem) (n : Int), m = .ref A.m ∧ s = .int n ∧ MemAt K H A M ∧ ∀ H', Ex H H' → Q (.bl (M.fits n)) H'
def Mem.least (M : Mem) : Nat := M.tab.findIdx (fun e => !e.live)
def Ent.fresh (e : Ent) (size start : Int) : Ent := { stamp := e.stamp, live := true, size := size, start := start, filled := 0, to := none, done := 0, mark := 0, black := false }
def q_Memory_reserve (K : PySem.W.Frag) : V → V → Hp → VK → XK → Prop := fun m s H Q E => ∃ (A : MA) (M : Mem) (n : Int), m = .ref A.m ∧ s = .int n ∧ MemAt K H A M ∧
  (M.fits n = false → ∀ H', Ex H H' → E (.ref (He.ga K "NoRoom")) none H') ∧
  (M.fits n = true → ∀ (e : Ent) (H' : Hp) (t : Addr), M.tab[M.least]? = some e → e.live = false → H t = none → H' t = some (.tup [.int M.least, .int e.stamp]) → Out A.foot H H' → MemAt K H' A ⟨M.arena, M.tab.set M.least (e.fresh n M.fin), M.fin + n⟩ → Q (.ref t) H')
def q_Memory__spot (K : PySem.W.Frag) : V → V → V → Hp → VK → XK → Prop := fun _ p k H Q _ => ∃ (a : Addr) (e : Ent) (i : Int), p = .ref a ∧ k = .int i ∧ EntAt K H a e ∧ Q (.int (e.spot i)) H
def q_Memory_fill (K : PySem.W.Frag) : V → V → Hp → VK → XK → Prop := fun m h H Q _ => ∃ A M ah i a e, m = .ref A.m ∧ h = .ref ah ∧ Hdl K H A M ah i a e ∧ e.filled < e.size ∧ 0 ≤ e.spot e.filled ∧ e.spot e.filled < M.arena.length ∧
  ∀ H', Out A.foot H H' → MemAt K H' A ⟨M.arena.set (e.spot e.filled).toNat .non, M.tab.set i { e with filled := e.filled + 1 }, M.fin⟩ → Q (.bl (decide (e.filled + 1 = e.size))) H'
def q_Memory_size (K : PySem.W.Frag) : V → V → Hp → VK → XK → Prop := fun m h H Q _ => ∃ A M ah i a e, m = .ref A.m ∧ h = .ref ah ∧ Hdl K H A M ah i a e ∧ Q (.int e.size) H
def q_Memory_read (K : PySem.W.Frag) : V → V → V → Hp → VK → XK → Prop := fun m h k H Q _ => ∃ A M ah i a e, ∃ (j : Int) (v : V), m = .ref A.m ∧ h = .ref ah ∧ k = .int j ∧ Hdl K H A M ah i a e ∧ 0 ≤ j ∧ j < e.size ∧ (j < e.filled → 0 ≤ e.spot j ∧ M.arena[(e.spot j).toNat]? = some v) ∧ (¬ j < e.filled → v = .non) ∧ Q v H
def q_Memory_write (K : PySem.W.Frag) : V → V → V → V → Hp → VK → XK → Prop := fun m h k x H Q _ => ∃ A M ah i a e, ∃ (j : Int) (v : V) (z : Int), m = .ref A.m ∧ h = .ref ah ∧ k = .int j ∧ x = .int z ∧ Hdl K H A M ah i a e ∧ 0 ≤ j ∧ j < e.filled ∧ 0 ≤ e.spot j ∧ M.arena[(e.spot j).toNat]? = some v ∧
  ∀ H', Out A.foot H H' → MemAt K H' A ⟨M.arena.set (e.spot j).toNat (.int z), M.tab, M.fin⟩ → Q v H'
/-- a live object by its slot -/
structure Slt (K : PySem.W.Frag) (H : Hp) (A : MA) (M : Mem) (i : Nat) (a : Addr) (e : Ent) : Prop where
  mem : MemAt K H A M
  at_ : A.ea[i]? = some a
  ent : M.tab[i]? = some e
  live : e.live = true
def q_Memory_free (K : PySem.W.Frag) : V → V → Hp → VK → XK → Prop := fun m s H Q _ => ∃ A M i a e, m = .ref A.m ∧ s = .int (i : Nat) ∧ Slt K H A M i a e ∧ e.to = none ∧
  ∀ H', Out A.foot H H' → MemAt K H' A ⟨M.arena, M.tab.set i { e with live := false, stamp := e.stamp + 1 }, M.fin⟩ → Q .non H'
def q_Memory_start (K : PySem.W.Frag) : V → V → Hp → VK → XK → Prop := fun m s H Q _ => ∃ A M i a e, m = .ref A.m ∧ s = .int (i : Nat) ∧ Slt K H A M i a e ∧ Q (.int e.start) H
def q_Memory_place (K : PySem.W.Frag) : V → V → V → Hp → VK → XK → Prop := fun m h k H Q _ => ∃ A M ah i a e, ∃ (j : Int), m = .ref A.m ∧ h = .ref ah ∧ k = .int j ∧ Hdl K H A M ah i a e ∧ 0 ≤ j ∧ j < e.size ∧ Q (.int (e.spot j)) H
def Mem.still (M : Mem) : Prop := ∀ e ∈ M.tab, e.live = true → e.to = none
def q_Memory_moving (K : PySem.W.Frag) : V → Hp → VK → XK → Prop := fun m H Q _ => ∃ A M, m = .ref A.m ∧ MemAt K H A M ∧ M.still ∧ ∀ H', Ex H H' → Q .non H'
def q_Memory_begin_move (K : PySem.W.Frag) : V → V → V → Hp → VK → XK → Prop := fun m s t H Q _ => ∃ A M i a e, ∃ (z : Int), m = .ref A.m ∧ s = .int (i : Nat) ∧ t = .int z ∧ Slt K H A M i a e ∧ M.still ∧ 0 ≤ z ∧ z < e.start ∧ (∀ x ∈ M.tab, x.live = true → x.start < e.start → x.start + x.size ≤ z) ∧
  ∀ H', Out A.foot H H' → MemAt K H' A ⟨M.arena, M.tab.set i { e with to := some z, done := 0 }, M.fin⟩ → Q .non H'
def q_Memory_copy_cell (K : PySem.W.Frag) : V → V → Hp → VK → XK → Prop := fun m s H Q _ => ∃ A M i a e, ∃ (z : Int) (v : V), m = .ref A.m ∧ s = .int (i : Nat) ∧ Slt K H A M i a e ∧ e.to = some z ∧ e.done < e.size ∧ 0 ≤ e.start + e.done ∧ M.arena[(e.start + e.done).toNat]? = some v ∧ 0 ≤ z + e.done ∧ z + e.done < M.arena.length ∧
  ∀ H', Out A.foot H H' → MemAt K H' A ⟨M.arena.set (z + e.done).toNat v, M.tab.set i { e with done := e.done + 1 }, M.fin⟩ → Q (.bl (decide (e.done + 1 = e.size))) H'
def q_Memory_turn (K : PySem.W.Frag) : V → V → Hp → VK → XK → Prop := fun m s H Q _ => ∃ A M i a e, ∃ (z : Int), m = .ref A.m ∧ s = .int (i : Nat) ∧ Slt K H A M i a e ∧ e.to = some z ∧ e.size ≤ e.done ∧
  ∀ H', Out A.foot H H' → MemAt K H' A ⟨M.arena, M.tab.set i { e with start := z, to := none, done := 0 }, M.fin⟩ → Q .non H'
def q_Memory_settle (K : PySem.W.Frag) : V → V → Hp → VK → XK → Prop := fun m f H Q _ => ∃ A M, ∃ (z : Int), m = .ref A.m ∧ f = .int z ∧ MemAt K H A M ∧ M.still ∧ 0 ≤ z ∧ z ≤ M.fin ∧ (∀ x ∈ M.tab, x.live = true → x.start + x.size ≤ z) ∧
  ∀ H', Out A.foot H H' → MemAt K H' A ⟨M.arena, M.tab, z⟩ → Q .non H'
/-- a state as a tuple -/
structure StAt (H : Hp) (p : Addr) (M : Mem) : Prop where
  ex : ∃ (pa pr : Addr) (ts : List Addr), H p = some (.tup [.ref pa, .ref pr, .int M.fin]) ∧ H pa = some (.tup M.arena) ∧ H pr = some (.tup (ts.map V.ref)) ∧ ts.length = M.tab.length ∧ ∀ (i : Nat) t e, ts[i]? = some t → M.tab[i]? = some e → H t = some (.tup (rowV e))
def q_Memory_state (K : PySem.W.Frag) : V → Hp → VK → XK → Prop := fun m H Q _ => ∃ A M, m = .ref A.m ∧ MemAt K H A M ∧ ∀ H' p, H p = none → Ex H H' → StAt H' p M → Q (.ref p) H'
def q_Memory_take (K : PySem.W.Frag) : V → V → Hp → VK → XK → Prop := fun m s H Q _ => ∃ A M N p, m = .ref A.m ∧ s = .ref p ∧ MemAt K H A M ∧ StAt H p N ∧ M.arena.length = N.arena.length ∧ M.tab.length = N.tab.length ∧
  ∀ H' la, H la = none → Out A.foot H H' → MemAt K H' { A with la := la } N → Q .non H'
end G

namespace G
open PySem L2 U
@[simp] theorem len_entF (e : Ent) : (entF e).length = 9 := rfl
@[simp] theorem lk_entF_stamp (e : Ent) : (entF e).lookup ("stamp" : Str) = some (.int e.stamp) := by kernel_rfl
@[simp] theorem pt_entF_stamp (e : Ent) (z : Int) : putF "stamp" (.int z) (entF e) = entF { e with stamp := z } := by kernel_rfl
@[simp] theorem lk_entF_live (e : Ent) : (entF e).lookup ("live" : Str) = some (.bl e.live) := by kernel_rfl
@[simp] theorem pt_entF_live (e : Ent) (z : Bool) : putF "live" (.bl z) (entF e) = entF { e with live := z } := by kernel_rfl
@[simp] theorem lk_entF_size (e : Ent) : (entF e).lookup ("size" : Str) = some (.int e.size) := by kernel_rfl
@[simp] theorem pt_entF_size (e : Ent) (z : Int) : putF "size" (.int z) (entF e) = entF { e with size := z } := by kernel_rfl
@[simp] theorem lk_entF_start (e : Ent) : (entF e).lookup ("start" : Str) = some (.int e.start) := by kernel_rfl
@[simp] theorem pt_entF_start (e : Ent) (z : Int) : putF "start" (.int z) (entF e) = entF { e with start := z } := by kernel_rfl
@[simp] theorem lk_entF_filled (e : Ent) : (entF e).lookup ("filled" : Str) = some (.int e.filled) := by kernel_rfl
@[simp] theorem pt_entF_filled (e : Ent) (z : Int) : putF "filled" (.int z) (entF e) = entF { e with filled := z } := by kernel_rfl
@[simp] theorem lk_entF_to (e : Ent) : (entF e).lookup ("to" : Str) = some (optI e.to) := by kernel_rfl
@[simp] theorem pt_entF_to (e : Ent) (z : Int) : putF "to" (.int z) (entF e) = entF { e with to := some z } := by kernel_rfl
@[simp] theorem pt_entF_to1 (e : Ent)  : putF "to" (.non) (entF e) = entF { e with to := none } := by kernel_rfl
@[simp] theorem lk_entF_done (e : Ent) : (entF e).lookup ("done" : Str) = some (.int e.done) := by kernel_rfl
@[simp] theorem pt_entF_done (e : Ent) (z : Int) : putF "done" (.int z) (entF e) = entF { e with done := z } := by kernel_rfl
@[simp] theorem lk_entF_mark (e : Ent) : (entF e).lookup ("mark" : Str) = some (.int e.mark) := by kernel_rfl
@[simp] theorem pt_entF_mark (e : Ent) (z : Int) : putF "mark" (.int z) (entF e) = entF { e with mark := z } := by kernel_rfl
@[simp] theorem lk_entF_black (e : Ent) : (entF e).lookup ("black" : Str) = some (.bl e.black) := by kernel_rfl
@[simp] theorem pt_entF_black (e : Ent) (z : Bool) : putF "black" (.bl z) (entF e) = entF { e with black := z } := by kernel_rfl
@[simp] theorem nm_entF_row (e : Ent) : NoFld (entF e) ("row" : Str) := show (entF e).lookup ("row" : Str) = none by kernel_rfl
@[simp] theorem nm_entF_high (e : Ent) : NoFld (entF e) ("high" : Str) := show (entF e).lookup ("high" : Str) = none by kernel_rfl
@[simp] theorem len_memF (la lt : Addr) (n : Int) : (memF la lt n).length = 3 := rfl
@[simp] theorem lk_memF_arena (la lt : Addr) (n : Int) : (memF la lt n).lookup ("_arena" : Str) = some (.ref la) := by kernel_rfl
@[simp] theorem pt_memF_arena (la lt : Addr) (n : Int) (z : Addr) : putF "_arena" (.ref z) (memF la lt n) = memF z lt n := by kernel_rfl
@[simp] theorem lk_memF_table (la lt : Addr) (n : Int) : (memF la lt n).lookup ("_table" : Str) = some (.ref lt) := by kernel_rfl
@[simp] theorem pt_memF_table (la lt : Addr) (n : Int) (z : Addr) : putF "_table" (.ref z) (memF la lt n) = memF la z n := by kernel_rfl
@[simp] theorem lk_memF_end (la lt : Addr) (n : Int) : (memF la lt n).lookup ("_end" : Str) = some (.int n) := by kernel_rfl
@[simp] theorem pt_memF_end (la lt : Addr) (n : Int) (z : Int) : putF "_end" (.int z) (memF la lt n) = memF la lt z := by kernel_rfl
@[simp] theorem nm_memF_end (la lt : Addr) (n : Int) : NoFld (memF la lt n) ("end" : Str) := show (memF la lt n).lookup ("end" : Str) = none by kernel_rfl
@[simp] theorem nm_memF_live (la lt : Addr) (n : Int) : NoFld (memF la lt n) ("live" : Str) := show (memF la lt n).lookup ("live" : Str) = none by kernel_rfl
@[simp] theorem nm_memF_entry_at (la lt : Addr) (n : Int) : NoFld (memF la lt n) ("_entry_at" : Str) := show (memF la lt n).lookup ("_entry_at" : Str) = none by kernel_rfl
@[simp] theorem nm_memF_entry (la lt : Addr) (n : Int) : NoFld (memF la lt n) ("_entry" : Str) := show (memF la lt n).lookup ("_entry" : Str) = none by kernel_rfl
@[simp] theorem nm_memF_is_live (la lt : Addr) (n : Int) : NoFld (memF la lt n) ("is_live" : Str) := show (memF la lt n).lookup ("is_live" : Str) = none by kernel_rfl
@[simp] theorem nm_memF_handle_at (la lt : Addr) (n : Int) : NoFld (memF la lt n) ("handle_at" : Str) := show (memF la lt n).lookup ("handle_at" : Str) = none by kernel_rfl
@[simp] theorem nm_memF_fits (la lt : Addr) (n : Int) : NoFld (memF la lt n) ("fits" : Str) := show (memF la lt n).lookup ("fits" : Str) = none by kernel_rfl
@[simp] theorem nm_memF_reserve (la lt : Addr) (n : Int) : NoFld (memF la lt n) ("reserve" : Str) := show (memF la lt n).lookup ("reserve" : Str) = none by kernel_rfl
@[simp] theorem nm_memF_spot (la lt : Addr) (n : Int) : NoFld (memF la lt n) ("_spot" : Str) := show (memF la lt n).lookup ("_spot" : Str) = none by kernel_rfl
@[simp] theorem nm_memF_fill (la lt : Addr) (n : Int) : NoFld (memF la lt n) ("fill" : Str) := show (memF la lt n).lookup ("fill" : Str) = none by kernel_rfl
@[simp] theorem nm_memF_size (la lt : Addr) (n : Int) : NoFld (memF la lt n) ("size" : Str) := show (memF la lt n).lookup ("size" : Str) = none by kernel_rfl
@[simp] theorem nm_memF_read (la lt : Addr) (n : Int) : NoFld (memF la lt n) ("read" : Str) := show (memF la lt n).lookup ("read" : Str) = none by kernel_rfl
@[simp] theorem nm_memF_write (la lt : Addr) (n : Int) : NoFld (memF la lt n) ("write" : Str) := show (memF la lt n).lookup ("write" : Str) = none by kernel_rfl
@[simp] theorem nm_memF_free (la lt : Addr) (n : Int) : NoFld (memF la lt n) ("free" : Str) := show (memF la lt n).lookup ("free" : Str) = none by kernel_rfl
@[simp] theorem nm_memF_start (la lt : Addr) (n : Int) : NoFld (memF la lt n) ("start" : Str) := show (memF la lt n).lookup ("start" : Str) = none by kernel_rfl
@[simp] theorem nm_memF_place (la lt : Addr) (n : Int) : NoFld (memF la lt n) ("place" : Str) := show (memF la lt n).lookup ("place" : Str) = none by kernel_rfl
@[simp] theorem nm_memF_moving (la lt : Addr) (n : Int) : NoFld (memF la lt n) ("moving" : Str) := show (memF la lt n).lookup ("moving" : Str) = none by kernel_rfl
@[simp] theorem nm_memF_begin_move (la lt : Addr) (n : Int) : NoFld (memF la lt n) ("begin_move" : Str) := show (memF la lt n).lookup ("begin_move" : Str) = none by kernel_rfl
@[simp] theorem nm_memF_copy_cell (la lt : Addr) (n : Int) : NoFld (memF la lt n) ("copy_cell" : Str) := show (memF la lt n).lookup ("copy_cell" : Str) = none by kernel_rfl
@[simp] theorem nm_memF_turn (la lt : Addr) (n : Int) : NoFld (memF la lt n) ("turn" : Str) := show (memF la lt n).lookup ("turn" : Str) = none by kernel_rfl
@[simp] theorem nm_memF_settle (la lt : Addr) (n : Int) : NoFld (memF la lt n) ("settle" : Str) := show (memF la lt n).lookup ("settle" : Str) = none by kernel_rfl
@[simp] theorem nm_memF_state (la lt : Addr) (n : Int) : NoFld (memF la lt n) ("state" : Str) := show (memF la lt n).lookup ("state" : Str) = none by kernel_rfl
@[simp] theorem nm_memF_take (la lt : Addr) (n : Int) : NoFld (memF la lt n) ("take" : Str) := show (memF la lt n).lookup ("take" : Str) = none by kernel_rfl
end G

namespace G
open PySem L2
def sp_is_integer (K : PySem.W.Frag) : Sp := U.S1 (q_is_integer K)
def sp_is_count (K : PySem.W.Frag) : Sp := U.S1 (q_is_count K)
def sp_is_handle (K : PySem.W.Frag) : Sp := U.S1 (q_is_handle K)
def sp_is_value (K : PySem.W.Frag) : Sp := U.S1 (q_is_value K)
def sp_Entry___init__ (K : PySem.W.Frag) : Sp := U.S1 (q_Entry___init__ K)
def sp_Entry_row (K : PySem.W.Frag) : Sp := U.S1 (q_Entry_row K)
def sp_Entry_high (K : PySem.W.Frag) : Sp := U.S1 (q_Entry_high K)
def sp_Memory___init__ (K : PySem.W.Frag) : Sp := U.S3 (q_Memory___init__ K)
def sp_Memory_end (K : PySem.W.Frag) : Sp := U.S1 (q_Memory_end K)
def sp_Memory_live (K : PySem.W.Frag) : Sp := U.S1 (q_Memory_live K)
def sp_Memory__entry_at (K : PySem.W.Frag) : Sp := U.S2 (q_Memory__entry_at K)
def sp_Memory_is_live (K : PySem.W.Frag) : Sp := U.S2 (q_Memory_is_live K)
def sp_Memory__entry (K : PySem.W.Frag) : Sp := U.S2 (q_Memory__entry K)
def sp_Memory_handle_at (K : PySem.W.Frag) : Sp := U.S2 (q_Memory_handle_at K)
def sp_Memory_fits (K : PySem.W.Frag) : Sp := U.S2 (q_Memory_fits K)
def sp_Memory_reserve (K : PySem.W.Frag) : Sp := U.S2 (q_Memory_reserve K)
def sp_Memory__spot (K : PySem.W.Frag) : Sp := U.S3 (q_Memory__spot K)
def sp_Memory_fill (K : PySem.W.Frag) : Sp := U.S2 (q_Memory_fill K)
def sp_Memory_size (K : PySem.W.Frag) : Sp := U.S2 (q_Memory_size K)
def sp_Memory_read (K : PySem.W.Frag) : Sp := U.S3 (q_Memory_read K)
def sp_Memory_write (K : PySem.W.Frag) : Sp := U.S4 (q_Memory_write K)
def sp_Memory_free (K : PySem.W.Frag) : Sp := U.S2 (q_Memory_free K)
def sp_Memory_start (K : PySem.W.Frag) : Sp := U.S2 (q_Memory_start K)
def sp_Memory_place (K : PySem.W.Frag) : Sp := U.S3 (q_Memory_place K)
def sp_Memory_moving (K : PySem.W.Frag) : Sp := U.S1 (q_Memory_moving K)
def sp_Memory_begin_move (K : PySem.W.Frag) : Sp := U.S3 (q_Memory_begin_move K)
def sp_Memory_copy_cell (K : PySem.W.Frag) : Sp := U.S2 (q_Memory_copy_cell K)
def sp_Memory_turn (K : PySem.W.Frag) : Sp := U.S2 (q_Memory_turn K)
def sp_Memory_settle (K : PySem.W.Frag) : Sp := U.S2 (q_Memory_settle K)
def sp_Memory_state (K : PySem.W.Frag) : Sp := U.S1 (q_Memory_state K)
def sp_Memory_take (K : PySem.W.Frag) : Sp := U.S2 (q_Memory_take K)
def t_is_integer (K : PySem.W.Frag) : TS :=
  (tRet (tAndV (tCB (U.uIsi K) (tCons (tVar 0) (tCons (tC (.ty "int")) tNil))) (tNotV (tCB (U.uIsi K) (tCons (tVar 0) (tCons (tC (.ty "bool")) tNil))))))
def t_is_count (K : PySem.W.Frag) : TS :=
  (tRet (tAndV (U.uCall (sp_is_integer K) E0 (tCons (tVar 0) tNil)) (tOp U.uGe (tVar 0) (tC (.int 0)))))
def t_is_handle (K : PySem.W.Frag) : TS :=
  (tRet (tAndV (tCB (U.uIsi K) (tCons (tVar 0) (tCons (tC (.ty "tuple")) tNil))) (tAndV (tOp (U.uEq K) (tCB (U.uLen K) (tCons (tVar 0) tNil)) (tC (.int 2))) (tAndV (U.uCall (sp_is_count K) E0 (tCons (tOp (U.uIx K) (tVar 0) (tC (.int 0))) tNil)) (U.uCall (sp_is_count K) E0 (tCons (tOp (U.uIx K) (tVar 0) (tC (.int 1))) tNil))))))
def t_is_value (K : PySem.W.Frag) : TS :=
  (tRet (tOrV (tOp U.uIsN (tVar 0) (tC .non)) (tOrV (U.uCall (sp_is_integer K) E0 (tCons (tVar 0) tNil)) (U.uCall (sp_is_handle K) E0 (tCons (tVar 0) tNil)))))
def t_Entry___init__ (K : PySem.W.Frag) : TS :=
  (tSeq (sFld K (tVar 0) (tC (.int 0)) "stamp")
  (tSeq (sFld K (tVar 0) (tC (.bl false)) "live")
  (tSeq (sFld K (tVar 0) (tC (.int 0)) "size")
  (tSeq (sFld K (tVar 0) (tC (.int 0)) "start")
  (tSeq (sFld K (tVar 0) (tC (.int 0)) "filled")
  (tSeq (sFld K (tVar 0) (tC .non) "to")
  (tSeq (sFld K (tVar 0) (tC (.int 0)) "done")
  (tSeq (sFld K (tVar 0) (tC (.int 0)) "mark")
  (sFld K (tVar 0) (tC (.bl false)) "black")))))))))
def t_Entry_row (K : PySem.W.Frag) : TS :=
  (tRet (tTup (tCons (tFld K (tVar 0) "stamp") (tCons (tFld K (tVar 0) "live") (tCons (tFld K (tVar 0) "size") (tCons (tFld K (tVar 0) "start") (tCons (tFld K (tVar 0) "filled") (tCons (tFld K (tVar 0) "to") (tCons (tFld K (tVar 0) "done") (tCons (tFld K (tVar 0) "mark") (tCons (tFld K (tVar 0) "black") tNil)))))))))))
def t_Entry_high (K : PySem.W.Frag) : TS :=
  (tRet (tOp (U.uAdd K) (tFld K (tVar 0) "start") (tFld K (tVar 0) "size")))
def t_Memory___init__ (K : PySem.W.Frag) : TS :=
  (tSeq (tIfS (tOr (tNot (U.tTru K (U.uCall (sp_is_integer K) E0 (tCons (tVar 1) tNil)))) (tOr (tTest (tOp (U.uLt K) (tVar 1) (tC (.int 1)))) (tTest (tOp U.uGt (tVar 1) (tC (.int 10000)))))) tNever tNext)
  (tSeq (tIfS (tOr (tNot (U.tTru K (U.uCall (sp_is_integer K) E0 (tCons (tVar 2) tNil)))) (tOr (tTest (tOp (U.uLt K) (tVar 2) (tC (.int 1)))) (tTest (tOp U.uGt (tVar 2) (tC (.int 1000)))))) tNever tNext)
  (tSeq (sFld K (tVar 0) (tOp (U.uMul K) (tLst (tCons (tC .non) tNil)) (tVar 1)) "_arena")
  (tSeq (sFld K (tVar 0) (tLc (iRng1 (tCons (tVar 2) tNil)) (gName 3) tYes (U.uMake (He.ga K "Entry") (sp_Entry___init__ K) E0 tNil) [3]) "_table")
  (sFld K (tVar 0) (tC (.int 0)) "_end")))))
def t_Memory_end (K : PySem.W.Frag) : TS :=
  (tRet (tFld K (tVar 0) "_end"))
def t_Memory_live (K : PySem.W.Frag) : TS :=
  (tRet (tCB (U.uLen K) (tCons (tLc (U.iSeq K (tFld K (tVar 0) "_table")) (gName 1) (U.tTru K (tFld K (tVar 1) "live")) (tVar 1) [1]) tNil)))
def t_Memory__entry_at (K : PySem.W.Frag) : TS :=
  (tSeq (tIfS (tOr (tNot (U.tTru K (U.uCall (sp_is_count K) E0 (tCons (tVar 1) tNil)))) (tOr (tTest (tOp U.uGe (tVar 1) (tCB (U.uLen K) (tCons (tFld K (tVar 0) "_table") tNil)))) (tNot (U.tTru K (tFld K (tOp (U.uIx K) (tFld K (tVar 0) "_table") (tVar 1)) "live"))))) tNever tNext)
  (tRet (tOp (U.uIx K) (tFld K (tVar 0) "_table") (tVar 1))))
def t_Memory_is_live (K : PySem.W.Frag) : TS :=
  (tSeq (tIfS (tOr (tNot (U.tTru K (U.uCall (sp_is_handle K) E0 (tCons (tVar 1) tNil)))) (tTest (tOp U.uGe (tOp (U.uIx K) (tVar 1) (tC (.int 0))) (tCB (U.uLen K) (tCons (tFld K (tVar 0) "_table") tNil))))) (tRet (tC (.bl false))) tNext)
  (tRet (tAndV (tFld K (tOp (U.uIx K) (tFld K (tVar 0) "_table") (tOp (U.uIx K) (tVar 1) (tC (.int 0)))) "live") (tOp (U.uEq K) (tFld K (tOp (U.uIx K) (tFld K (tVar 0) "_table") (tOp (U.uIx K) (tVar 1) (tC (.int 0)))) "stamp") (tOp (U.uIx K) (tVar 1) (tC (.int 1)))))))
def t_Memory__entry (K : PySem.W.Frag) : TS :=
  (tSeq (tIfS (tNot (U.tTru K (U.uMeth (He.ga K "Memory") "is_live" (sp_Memory_is_live K) E0 (tVar 0) (tCons (tVar 1) tNil)))) tNever tNext)
  (tRet (tOp (U.uIx K) (tFld K (tVar 0) "_table") (tOp (U.uIx K) (tVar 1) (tC (.int 0))))))
def t_Memory_handle_at (K : PySem.W.Frag) : TS :=
  (tSeq (tAsg (tOp (U.uIx K) (tFld K (tVar 0) "_table") (tVar 1)) (gName 2))
  (tRet (tIf (U.tTru K (tFld K (tVar 2) "live")) (tTup (tCons (tVar 1) (tCons (tFld K (tVar 2) "stamp") tNil))) (tC .non))))
def t_Memory_fits (K : PySem.W.Frag) : TS :=
  (tRet (tAndV (tOp U.uLe (tOp (U.uAdd K) (tFld K (tVar 0) "_end") (tVar 1)) (tCB (U.uLen K) (tCons (tFld K (tVar 0) "_arena") tNil))) (tOp (U.uLt K) (U.uMeth (He.ga K "Memory") "live" (sp_Memory_live K) E0 (tVar 0) tNil) (tCB (U.uLen K) (tCons (tFld K (tVar 0) "_table") tNil)))))
def t_Memory_reserve (K : PySem.W.Frag) (W : WX) : TS :=
  (tSeq (tIfS (tNot (U.tTru K (U.uMeth (He.ga K "Memory") "fits" (sp_Memory_fits K) E0 (tVar 0) (tCons (tVar 1) tNil)))) (fun _ σ H => W (.ref (He.ga K "NoRoom")) none σ H) tNext)
  (tSeq (tAsg (tOp (U.uIx K) (tLc (iEnum K (tCons (tFld K (tVar 0) "_table") tNil)) (gTup K 2 (gCons (gName 4) (gCons (gName 3) gNil))) (tNot (U.tTru K (tFld K (tVar 3) "live"))) (tVar 4) [4, 3]) (tC (.int 0))) (gName 2))
  (tSeq (tAsg (tOp (U.uIx K) (tFld K (tVar 0) "_table") (tVar 2)) (gName 3))
  (tSeq (sFld K (tVar 3) (tC (.bl true)) "live")
  (tSeq (sFld K (tVar 3) (tVar 1) "size")
  (tSeq (sFld K (tVar 3) (tFld K (tVar 0) "_end") "start")
  (tSeq (sFld K (tVar 3) (tC (.int 0)) "filled")
  (tSeq (sFld K (tVar 3) (tC .non) "to")
  (tSeq (sFld K (tVar 3) (tC (.int 0)) "done")
  (tSeq (sFld K (tVar 3) (tC (.int 0)) "mark")
  (tSeq (sFld K (tVar 3) (tC (.bl false)) "black")
  (tSeq (sFldAug K (tVar 0) (tVar 1) rAdd "_end")
  (tRet (tTup (tCons (tVar 2) (tCons (tFld K (tVar 3) "stamp") tNil))))))))))))))))
def t_Memory__spot (K : PySem.W.Frag) : TS :=
  (tRet (tIf (tAnd (tTest (tOp U.uNotN (tFld K (tVar 1) "to") (tC .non))) (tTest (tOp (U.uLt K) (tVar 2) (tFld K (tVar 1) "done")))) (tOp (U.uAdd K) (tFld K (tVar 1) "to") (tVar 2)) (tOp (U.uAdd K) (tFld K (tVar 1) "start") (tVar 2))))
def t_Memory_fill (K : PySem.W.Frag) : TS :=
  (tSeq (tAsg (U.uMeth (He.ga K "Memory") "_entry" (sp_Memory__entry K) E0 (tVar 0) (tCons (tVar 1) tNil)) (gName 2))
  (tSeq (tIfS (tTest (tOp (U.uEq K) (tFld K (tVar 2) "filled") (tFld K (tVar 2) "size"))) tNever tNext)
  (tSeq (tAsg (tC .non) (gSub (tFld K (tVar 0) "_arena") (U.uMeth (He.ga K "Memory") "_spot" (sp_Memory__spot K) E0 (tVar 0) (tCons (tVar 2) (tCons (tFld K (tVar 2) "filled") tNil))) U.uSet))
  (tSeq (sFldAug K (tVar 2) (tC (.int 1)) rAdd "filled")
  (tRet (tOp (U.uEq K) (tFld K (tVar 2) "filled") (tFld K (tVar 2) "size")))))))
def t_Memory_size (K : PySem.W.Frag) : TS :=
  (tRet (tFld K (U.uMeth (He.ga K "Memory") "_entry" (sp_Memory__entry K) E0 (tVar 0) (tCons (tVar 1) tNil)) "size"))
def t_Memory_read (K : PySem.W.Frag) : TS :=
  (tSeq (tAsg (U.uMeth (He.ga K "Memory") "_entry" (sp_Memory__entry K) E0 (tVar 0) (tCons (tVar 1) tNil)) (gName 3))
  (tSeq (tIfS (tOr (tNot (U.tTru K (U.uCall (sp_is_count K) E0 (tCons (tVar 2) tNil)))) (tTest (tOp U.uGe (tVar 2) (tFld K (tVar 3) "size")))) tNever tNext)
  (tRet (tIf (tTest (tOp (U.uLt K) (tVar 2) (tFld K (tVar 3) "filled"))) (tOp (U.uIx K) (tFld K (tVar 0) "_arena") (U.uMeth (He.ga K "Memory") "_spot" (sp_Memory__spot K) E0 (tVar 0) (tCons (tVar 3) (tCons (tVar 2) tNil)))) (tC .non)))))
def t_Memory_write (K : PySem.W.Frag) : TS :=
  (tSeq (tAsg (U.uMeth (He.ga K "Memory") "_entry" (sp_Memory__entry K) E0 (tVar 0) (tCons (tVar 1) tNil)) (gName 4))
  (tSeq (tIfS (tOr (tNot (U.tTru K (U.uCall (sp_is_count K) E0 (tCons (tVar 2) tNil)))) (tTest (tOp U.uGe (tVar 2) (tFld K (tVar 4) "filled")))) tNever tNext)
  (tSeq (tIfS (tNot (U.tTru K (U.uCall (sp_is_value K) E0 (tCons (tVar 3) tNil)))) tNever tNext)
  (tSeq (tAsg (U.uMeth (He.ga K "Memory") "_spot" (sp_Memory__spot K) E0 (tVar 0) (tCons (tVar 4) (tCons (tVar 2) tNil))) (gName 5))
  (tSeq (tAsg (tOp (U.uIx K) (tFld K (tVar 0) "_arena") (tVar 5)) (gName 6))
  (tSeq (tAsg (tVar 3) (gSub (tFld K (tVar 0) "_arena") (tVar 5) U.uSet))
  (tRet (tVar 6))))))))
def t_Memory_free (K : PySem.W.Frag) : TS :=
  (tSeq (tAsg (U.uMeth (He.ga K "Memory") "_entry_at" (sp_Memory__entry_at K) E0 (tVar 0) (tCons (tVar 1) tNil)) (gName 2))
  (tSeq (tIfS (tTest (tOp U.uNotN (tFld K (tVar 2) "to") (tC .non))) tNever tNext)
  (tSeq (sFld K (tVar 2) (tC (.bl false)) "live")
  (sFldAug K (tVar 2) (tC (.int 1)) rAdd "stamp"))))
def t_Memory_start (K : PySem.W.Frag) : TS :=
  (tRet (tFld K (U.uMeth (He.ga K "Memory") "_entry_at" (sp_Memory__entry_at K) E0 (tVar 0) (tCons (tVar 1) tNil)) "start"))
def t_Memory_place (K : PySem.W.Frag) : TS :=
  (tSeq (tAsg (U.uMeth (He.ga K "Memory") "_entry" (sp_Memory__entry K) E0 (tVar 0) (tCons (tVar 1) tNil)) (gName 3))
  (tSeq (tIfS (tOr (tNot (U.tTru K (U.uCall (sp_is_count K) E0 (tCons (tVar 2) tNil)))) (tTest (tOp U.uGe (tVar 2) (tFld K (tVar 3) "size")))) tNever tNext)
  (tRet (U.uMeth (He.ga K "Memory") "_spot" (sp_Memory__spot K) E0 (tVar 0) (tCons (tVar 3) (tCons (tVar 2) tNil))))))
def t_Memory_moving (K : PySem.W.Frag) : TS :=
  (tSeq (tFor (iEnum K (tCons (tFld K (tVar 0) "_table") tNil)) (gTup K 2 (gCons (gName 1) (gCons (gName 2) gNil))) (tIfS (tAnd (U.tTru K (tFld K (tVar 2) "live")) (tTest (tOp U.uNotN (tFld K (tVar 2) "to") (tC .non)))) (tRet (tVar 1)) tNext))
  (tRet (tC .non)))
def t_Memory_begin_move (K : PySem.W.Frag) : TS :=
  (tSeq (tAsg (U.uMeth (He.ga K "Memory") "_entry_at" (sp_Memory__entry_at K) E0 (tVar 0) (tCons (tVar 1) tNil)) (gName 3))
  (tSeq (tIfS (tOr (tTest (tOp U.uNotN (U.uMeth (He.ga K "Memory") "moving" (sp_Memory_moving K) E0 (tVar 0) tNil) (tC .non))) (tOr (tNot (U.tTru K (U.uCall (sp_is_count K) E0 (tCons (tVar 2) tNil)))) (tTest (tOp U.uGe (tVar 2) (tFld K (tVar 3) "start"))))) tNever tNext)
  (tSeq (tIfS (U.tTru K (tCB (U.uAny K) (tCons (tLc (U.iSeq K (tFld K (tVar 0) "_table")) (gName 4) tYes (tAndV (tFld K (tVar 4) "live") (tAndV (tOp (U.uLt K) (tFld K (tVar 4) "start") (tFld K (tVar 3) "start")) (tOp U.uGt (U.uMeth (He.ga K "Entry") "high" (sp_Entry_high K) E0 (tVar 4) tNil) (tVar 2)))) [4]) tNil))) tNever tNext)
  (tSeq (sFld K (tVar 3) (tVar 2) "to")
  (sFld K (tVar 3) (tC (.int 0)) "done")))))
def t_Memory_copy_cell (K : PySem.W.Frag) : TS :=
  (tSeq (tAsg (U.uMeth (He.ga K "Memory") "_entry_at" (sp_Memory__entry_at K) E0 (tVar 0) (tCons (tVar 1) tNil)) (gName 2))
  (tSeq (tIfS (tOr (tTest (tOp U.uIsN (tFld K (tVar 2) "to") (tC .non))) (tTest (tOp (U.uEq K) (tFld K (tVar 2) "done") (tFld K (tVar 2) "size")))) tNever tNext)
  (tSeq (tAsg (tOp (U.uIx K) (tFld K (tVar 0) "_arena") (tOp (U.uAdd K) (tFld K (tVar 2) "start") (tFld K (tVar 2) "done"))) (gSub (tFld K (tVar 0) "_arena") (tOp (U.uAdd K) (tFld K (tVar 2) "to") (tFld K (tVar 2) "done")) U.uSet))
  (tSeq (sFldAug K (tVar 2) (tC (.int 1)) rAdd "done")
  (tRet (tOp (U.uEq K) (tFld K (tVar 2) "done") (tFld K (tVar 2) "size")))))))
def t_Memory_turn (K : PySem.W.Frag) : TS :=
  (tSeq (tAsg (U.uMeth (He.ga K "Memory") "_entry_at" (sp_Memory__entry_at K) E0 (tVar 0) (tCons (tVar 1) tNil)) (gName 2))
  (tSeq (tIfS (tOr (tTest (tOp U.uIsN (tFld K (tVar 2) "to") (tC .non))) (tTest (tOp (U.uLt K) (tFld K (tVar 2) "done") (tFld K (tVar 2) "size")))) tNever tNext)
  (tSeq (sFld K (tVar 2) (tFld K (tVar 2) "to") "start")
  (tSeq (sFld K (tVar 2) (tC .non) "to")
  (sFld K (tVar 2) (tC (.int 0)) "done")))))
def t_Memory_settle (K : PySem.W.Frag) : TS :=
  (tSeq (tIfS (tOr (tTest (tOp U.uNotN (U.uMeth (He.ga K "Memory") "moving" (sp_Memory_moving K) E0 (tVar 0) tNil) (tC .non))) (tOr (tNot (U.tTru K (U.uCall (sp_is_count K) E0 (tCons (tVar 1) tNil)))) (tTest (tOp U.uGt (tVar 1) (tFld K (tVar 0) "_end"))))) tNever tNext)
  (tSeq (tIfS (U.tTru K (tCB (U.uAny K) (tCons (tLc (U.iSeq K (tFld K (tVar 0) "_table")) (gName 2) tYes (tAndV (tFld K (tVar 2) "live") (tOp U.uGt (U.uMeth (He.ga K "Entry") "high" (sp_Entry_high K) E0 (tVar 2) tNil) (tVar 1))) [2]) tNil))) tNever tNext)
  (sFld K (tVar 0) (tVar 1) "_end")))
def t_Memory_state (K : PySem.W.Frag) : TS :=
  (tRet (tTup (tCons (tCB (U.uTuple K) (tCons (tFld K (tVar 0) "_arena") tNil)) (tCons (tCB (U.uTuple K) (tCons (tLc (U.iSeq K (tFld K (tVar 0) "_table")) (gName 1) tYes (U.uMeth (He.ga K "Entry") "row" (sp_Entry_row K) E0 (tVar 1) tNil) [1]) tNil)) (tCons (tFld K (tVar 0) "_end") tNil)))))
def t_Memory_take (K : PySem.W.Frag) : TS :=
  (tSeq (tAsg (tVar 1) (gTup K 3 (gCons (gName 2) (gCons (gName 3) (gCons (U.gFld K (tVar 0) "_end") gNil)))))
  (tSeq (sFld K (tVar 0) (tCB (U.uList K) (tCons (tVar 2) tNil)) "_arena")
  (tFor (U.iZipLT K (tCons (tFld K (tVar 0) "_table") (tCons (tVar 3) tNil))) (gTup K 2 (gCons (gName 4) (gCons (gName 5) gNil))) (tSeq (tAsg (tSl (U.uSl K) (tVar 5) tNoPart (tPart (tC (.int 7)))) (gTup K 7 (gCons (U.gFld K (tVar 4) "stamp") (gCons (U.gFld K (tVar 4) "live") (gCons (U.gFld K (tVar 4) "size") (gCons (U.gFld K (tVar 4) "start") (gCons (U.gFld K (tVar 4) "filled") (gCons (U.gFld K (tVar 4) "to") (gCons (U.gFld K (tVar 4) "done") gNil)))))))))
  (tAsg (tSl (U.uSl K) (tVar 5) (tPart (tC (.int 7))) tNoPart) (gTup K 2 (gCons (U.gFld K (tVar 4) "mark") (gCons (U.gFld K (tVar 4) "black") gNil))))))))
end G

namespace G
open PySem L2 U
section
variable {K : PySem.W.Frag} [SitK K] {H : Hp} {Q : VK} {E : XK}
theorem pure_is_integer {a : V} (h : q_is_integer K a H Q E) : t_is_integer K { nx := fun _ H1 => Q .non H1, rt := Q } [some a] H := by
  unfold t_is_integer
  obtain ⟨k, q⟩ := h
  cases a <;> simp_all
theorem pure_is_count {a : V} (h : q_is_count K a H Q E) : t_is_count K { nx := fun _ H1 => Q .non H1, rt := Q } [some a] H := by
  unfold t_is_count
  obtain ⟨k, q⟩ := h
  cases a <;> simp_all [sp_is_integer]
theorem pure_is_handle {a : V} (h : q_is_handle K a H Q E) : t_is_handle K { nx := fun _ H1 => Q .non H1, rt := Q } [some a] H := by
  unfold t_is_handle
  cases a with
  | ref p =>
    simp only [q_is_handle] at h
    split at h
    · rename_i i j e
      simp [e, sp_is_count]
      by_cases h1 : 0 ≤ i <;> simp_all
    · exact h.elim
  | _ => simp_all
theorem pure_is_value {a : V} (h : q_is_value K a H Q E) : t_is_value K { nx := fun _ H1 => Q .non H1, rt := Q } [some a] H := by
  unfold t_is_value
  cases a with
  | ref p =>
    simp only [q_is_value] at h
    split at h
    · rename_i i j e
      simp [e, sp_is_integer, sp_is_handle]
      exact h
    · exact h.elim
  | _ => simp_all [sp_is_integer, sp_is_handle]
theorem pure_Entry___init__ {a : V} (h : q_Entry___init__ K a H Q E) : t_Entry___init__ K { nx := fun _ H1 => Q .non H1, rt := Q } [some a] H := by
  unfold t_Entry___init__
  obtain ⟨p, dx, rfl, hp, q⟩ := h
  simp [hp]
  refine ⟨by decide +kernel, by decide +kernel, by decide +kernel, by decide +kernel, by decide +kernel, by decide +kernel, by decide +kernel, by decide +kernel, ?_⟩
  have e0 : entF {} = putF "black" (.bl false) (putF "mark" (.int 0) (putF "done" (.int 0) (putF "to" .non (putF "filled" (.int 0) (putF "start" (.int 0) (putF "size" (.int 0) (putF "live" (.bl false) (putF "stamp" (.int 0) [])))))))) := by kernel_rfl
  rw [← e0]
  exact q
theorem pure_Entry_row {a : V} (h : q_Entry_row K a H Q E) : t_Entry_row K { nx := fun _ H1 => Q .non H1, rt := Q } [some a] H := by
  unfold t_Entry_row
  obtain ⟨p, e, rfl, ⟨dx, hp⟩, q⟩ := h
  simp [hp]
  exact ⟨by decide, q⟩
theorem pure_Entry_high {a : V} (h : q_Entry_high K a H Q E) : t_Entry_high K { nx := fun _ H1 => Q .non H1, rt := Q } [some a] H := by
  unfold t_Entry_high
  obtain ⟨p, e, rfl, ⟨dx, hp⟩, q⟩ := h
  simp [hp, q]
theorem pure_Memory_end {a : V} (h : q_Memory_end K a H Q E) : t_Memory_end K { nx := fun _ H1 => Q .non H1, rt := Q } [some a] H := by
  unfold t_Memory_end
  obtain ⟨A, M, rfl, hM, q⟩ := h
  obtain ⟨dx, hm⟩ := hM.hm
  simp [hm, q]
theorem pure_Memory__entry_at {a b : V} (h : q_Memory__entry_at K a b H Q E) : t_Memory__entry_at K { nx := fun _ H1 => Q .non H1, rt := Q } [some a, some b] H := by
  unfold t_Memory__entry_at
  obtain ⟨A, M, i, x, e, rfl, rfl, hM, h1, h2, h3, q⟩ := h
  obtain ⟨dx, hm⟩ := hM.hm
  obtain ⟨dy, he⟩ := hM.he i x e h1 h2
  obtain ⟨hi, hx⟩ := List.getElem?_eq_some_iff.mp h1
  simp [hm, hM.ht, he, h3, sp_is_count, q, hi, hx]
theorem pure_Memory_is_live {a b : V} (h : q_Memory_is_live K a b H Q E) : t_Memory_is_live K { nx := fun _ H1 => Q .non H1, rt := Q } [some a, some b] H := by
  unfold t_Memory_is_live
  obtain ⟨A, M, ah, i, s, e, rfl, rfl, hM, hh, hs, he, q⟩ := h
  obtain ⟨dx, hm⟩ := hM.hm
  obtain ⟨x, dy, h1, hx⟩ := hM.enta he
  obtain ⟨hi, h2⟩ := List.getElem?_eq_some_iff.mp h1
  have ht := hM.ht
  simp [hm, ht, hx, h2, hh, hs, hi, sp_is_handle]
  cases hl : e.live <;> simp_all
theorem pure_Memory__entry {a b : V} (h : q_Memory__entry K a b H Q E) : t_Memory__entry K { nx := fun _ H1 => Q .non H1, rt := Q } [some a, some b] H := by
  unfold t_Memory__entry
  obtain ⟨A, M, ah, i, x, e, rfl, rfl, ⟨hM, hh, hs, h1, he, hl⟩, q⟩ := h
  obtain ⟨dx, hm⟩ := hM.hm
  simp [hm, sp_Memory_is_live]
  refine ⟨A, M, ah, i, _, e, rfl, rfl, hM, hh, hs, he, ?_⟩
  simp [hm, hM.ht, hh, h1, hl, q]
theorem pure_Memory_handle_at {a b : V} (h : q_Memory_handle_at K a b H Q E) : t_Memory_handle_at K { nx := fun _ H1 => Q .non H1, rt := Q } [some a, some b, none] H := by
  unfold t_Memory_handle_at
  obtain ⟨A, M, i, e, rfl, rfl, hM, he, hl, q⟩ := h
  obtain ⟨dx, hm⟩ := hM.hm
  obtain ⟨x, dy, h1, hx⟩ := hM.enta he
  simp [hm, hM.ht, hx, h1, hl]
  exact ⟨by decide, q⟩
theorem pure_Memory__spot {a b c : V} (h : q_Memory__spot K a b c H Q E) : t_Memory__spot K { nx := fun _ H1 => Q .non H1, rt := Q } [some a, some b, some c] H := by
  unfold t_Memory__spot
  obtain ⟨p, e, i, rfl, rfl, ⟨dx, hp⟩, q⟩ := h
  simp [hp]
  unfold Ent.spot at q
  cases ht : e.to with
  | none => simp_all
  | some t => by_cases hd : i < e.done <;> simp_all <;> omega
theorem foot_m {A : MA} : A.m ∈ A.foot := by simp [MA.foot]
theorem foot_la {A : MA} : A.la ∈ A.foot := by simp [MA.foot]
theorem foot_lt {A : MA} : A.lt ∈ A.foot := by simp [MA.foot]
theorem foot_e {A : MA} {i : Nat} {a : Addr} (h : A.ea[i]? = some a) : a ∈ A.foot := by simp [MA.foot, List.mem_of_getElem? h]
theorem pure_Memory_size {a b : V} (h : q_Memory_size K a b H Q E) : t_Memory_size K { nx := fun _ H1 => Q .non H1, rt := Q } [some a, some b] H := by
  unfold t_Memory_size
  obtain ⟨A, M, ah, i, x, e, rfl, rfl, hd, q⟩ := h
  obtain ⟨dx, hm⟩ := hd.mem.hm
  obtain ⟨dy, hx⟩ := hd.mem.he i x e hd.at_ hd.ent
  simp [hm, sp_Memory__entry]
  refine ⟨A, M, ah, i, x, e, rfl, rfl, hd, ?_⟩
  simp [hx, q]
theorem pure_Memory_fill {a b : V} (h : q_Memory_fill K a b H Q E) : t_Memory_fill K { nx := fun _ H1 => Q .non H1, rt := Q } [some a, some b, none] H := by
  unfold t_Memory_fill
  obtain ⟨A, M, ah, i, x, e, rfl, rfl, hd, h1, h2, h3, q⟩ := h
  have hM := hd.mem
  obtain ⟨dx, hm⟩ := hM.hm
  obtain ⟨dy, hx⟩ := hM.he i x e hd.at_ hd.ent
  obtain ⟨n1, n2, n3⟩ := hM.ela (List.mem_of_getElem? hd.at_)
  have n4 := hM.mla
  have h4 : ¬ e.filled = e.size := by omega
  have h5 : (e.spot e.filled).toNat < M.arena.length := by omega
  simp [hm, sp_Memory__entry]
  refine ⟨A, M, ah, i, x, e, rfl, rfl, hd, ?_⟩
  simp [hm, hx, h4, hM.ha, sp_Memory__spot]
  refine ⟨x, e, _, rfl, rfl, ⟨dy, hx⟩, ?_⟩
  simp [hM.ha, ixN_nn h2, h5, hx, n1, n1.symm, hm, n4]
  exact q _ (Out.put (Out.put Out.refl foot_la) (foot_e hd.at_)) ((hM.setArena (by rw [List.length_set]; exact hM.al)).setEnt hd.at_)
theorem pure_Memory_read {a b c : V} (h : q_Memory_read K a b c H Q E) : t_Memory_read K { nx := fun _ H1 => Q .non H1, rt := Q } [some a, some b, some c, none] H := by
  unfold t_Memory_read
  obtain ⟨A, M, ah, i, x, e, j, v, rfl, rfl, rfl, hd, h1, h2, h3, h4, q⟩ := h
  have hM := hd.mem
  obtain ⟨dx, hm⟩ := hM.hm
  obtain ⟨dy, hx⟩ := hM.he i x e hd.at_ hd.ent
  simp [hm, sp_Memory__entry]
  refine ⟨A, M, ah, i, x, e, rfl, rfl, hd, ?_⟩
  simp [hx, h1, h2, sp_is_count, hm, sp_Memory__spot]
  by_cases h5 : j < e.filled
  · obtain ⟨h6, h7⟩ := h3 h5
    refine .inr ⟨h5, x, e, _, rfl, rfl, ⟨dy, hx⟩, ?_⟩
    simp [hM.ha, atI_nn h6, h7, q]
  · rw [h4 h5] at q
    exact .inl ⟨by omega, q⟩
theorem pure_Memory_write {a b c d : V} (h : q_Memory_write K a b c d H Q E) : t_Memory_write K { nx := fun _ H1 => Q .non H1, rt := Q } [some a, some b, some c, some d, none, none, none] H := by
  unfold t_Memory_write
  obtain ⟨A, M, ah, i, x, e, j, v, z, rfl, rfl, rfl, rfl, hd, h1, h2, h3, h4, q⟩ := h
  have hM := hd.mem
  obtain ⟨dx, hm⟩ := hM.hm
  obtain ⟨dy, hx⟩ := hM.he i x e hd.at_ hd.ent
  have n4 := hM.mla
  obtain ⟨h5, h6⟩ := List.getElem?_eq_some_iff.mp h4
  simp [hm, sp_Memory__entry]
  refine ⟨A, M, ah, i, x, e, rfl, rfl, hd, ?_⟩
  simp [hx, h1, h2, sp_is_count, sp_is_value, hm, sp_Memory__spot]
  refine ⟨x, e, _, rfl, rfl, ⟨dy, hx⟩, ?_⟩
  simp [hm, hM.ha, atI_nn h3, ixN_nn h3, h5, h6]
  exact q _ (Out.put Out.refl foot_la) (hM.setArena (by rw [List.length_set]; exact hM.al))
theorem pure_Memory_free {a b : V} (h : q_Memory_free K a b H Q E) : t_Memory_free K { nx := fun _ H1 => Q .non H1, rt := Q } [some a, some b, none] H := by
  unfold t_Memory_free
  obtain ⟨A, M, i, x, e, rfl, rfl, hd, h1, q⟩ := h
  have hM := hd.mem
  obtain ⟨dx, hm⟩ := hM.hm
  obtain ⟨dy, hx⟩ := hM.he i x e hd.at_ hd.ent
  simp [hm, sp_Memory__entry_at]
  refine ⟨A, M, i, x, e, rfl, rfl, hM, hd.at_, hd.ent, hd.live, ?_⟩
  simp [hx, h1]
  have z := q _ (Out.put Out.refl (foot_e hd.at_)) (hM.setEnt (dx := dy) hd.at_)
  simp only [h1] at z
  exact z
theorem pure_Memory_start {a b : V} (h : q_Memory_start K a b H Q E) : t_Memory_start K { nx := fun _ H1 => Q .non H1, rt := Q } [some a, some b] H := by
  unfold t_Memory_start
  obtain ⟨A, M, i, x, e, rfl, rfl, hd, q⟩ := h
  have hM := hd.mem
  obtain ⟨dx, hm⟩ := hM.hm
  obtain ⟨dy, hx⟩ := hM.he i x e hd.at_ hd.ent
  simp [hm, sp_Memory__entry_at]
  refine ⟨A, M, i, x, e, rfl, rfl, hM, hd.at_, hd.ent, hd.live, ?_⟩
  simp [hx, q]
theorem pure_Memory_place {a b c : V} (h : q_Memory_place K a b c H Q E) : t_Memory_place K { nx := fun _ H1 => Q .non H1, rt := Q } [some a, some b, some c, none] H := by
  unfold t_Memory_place
  obtain ⟨A, M, ah, i, x, e, j, rfl, rfl, rfl, hd, h1, h2, q⟩ := h
  have hM := hd.mem
  obtain ⟨dx, hm⟩ := hM.hm
  obtain ⟨dy, hx⟩ := hM.he i x e hd.at_ hd.ent
  simp [hm, sp_Memory__entry]
  refine ⟨A, M, ah, i, x, e, rfl, rfl, hd, ?_⟩
  simp [hx, h1, h2, sp_is_count, hm, sp_Memory__spot]
  exact ⟨x, e, _, rfl, rfl, ⟨dy, hx⟩, q⟩
theorem pure_Memory_copy_cell {a b : V} (h : q_Memory_copy_cell K a b H Q E) : t_Memory_copy_cell K { nx := fun _ H1 => Q .non H1, rt := Q } [some a, some b, none] H := by
  unfold t_Memory_copy_cell
  obtain ⟨A, M, i, x, e, z, v, rfl, rfl, hd, h1, h2, h3, h4, h5, h6, q⟩ := h
  have hM := hd.mem
  obtain ⟨dx, hm⟩ := hM.hm
  obtain ⟨dy, hx⟩ := hM.he i x e hd.at_ hd.ent
  obtain ⟨n1, n2, n3⟩ := hM.ela (List.mem_of_getElem? hd.at_)
  have n4 := hM.mla
  have h7 : ¬ e.done = e.size := by omega
  have h8 : (z + e.done).toNat < M.arena.length := by omega
  obtain ⟨h9, h10⟩ := List.getElem?_eq_some_iff.mp h4
  simp [hm, sp_Memory__entry_at]
  refine ⟨A, M, i, x, e, rfl, rfl, hM, hd.at_, hd.ent, hd.live, ?_⟩
  simp [hx, h1, h7, hm, hM.ha, atI_nn h3, h9, h10, ixN_nn h5, h8, n1, n1.symm]
  simp only [h1] at q
  exact q _ (Out.put (Out.put Out.refl foot_la) (foot_e hd.at_)) ((hM.setArena (by rw [List.length_set]; exact hM.al)).setEnt hd.at_)
theorem pure_Memory_turn {a b : V} (h : q_Memory_turn K a b H Q E) : t_Memory_turn K { nx := fun _ H1 => Q .non H1, rt := Q } [some a, some b, none] H := by
  unfold t_Memory_turn
  obtain ⟨A, M, i, x, e, z, rfl, rfl, hd, h1, h2, q⟩ := h
  have hM := hd.mem
  obtain ⟨dx, hm⟩ := hM.hm
  obtain ⟨dy, hx⟩ := hM.he i x e hd.at_ hd.ent
  have h3 : ¬ e.done < e.size := by omega
  simp [hm, sp_Memory__entry_at]
  refine ⟨A, M, i, x, e, rfl, rfl, hM, hd.at_, hd.ent, hd.live, ?_⟩
  simp [hx, h1, h2]
  exact q _ (Out.put Out.refl (foot_e hd.at_)) (hM.setEnt (dx := dy) hd.at_)
end
end G

namespace G
open PySem L2 U
section
variable {K : PySem.W.Frag} [SitK K] {H : Hp} {Q : VK} {E : XK}
theorem got_filter {es : List Ent} {xs : List Addr} (h : xs.length = es.length) (f : Ent → Bool) (F : Nat → Option V) (hF : ∀ (i : Nat) e a, es[i]? = some e → xs[i]? = some a → F i = if f e then some (.ref a) else none) : (got F xs.length).length = (es.filter f).length := by
  have key : ∀ n, n ≤ es.length → (got F n).length = ((es.take n).filter f).length := by
    intro n
    induction n with
    | zero => intro _; rfl
    | succ n ih =>
      intro hn
      have he : es[n]? = some es[n] := List.getElem?_eq_getElem (by omega)
      have hx : xs[n]? = some (xs[n]'(by omega)) := List.getElem?_eq_getElem (by omega)
      have q := hF n _ _ he hx
      rw [List.take_succ, he, List.filter_append, List.length_append, ← ih (by omega)]
      by_cases hf : f es[n] = true
      · rw [if_pos hf] at q
        rw [got_some q, List.length_append]
        simp [hf]
      · rw [if_neg hf] at q
        rw [got_none q]
        simp [hf]
  rw [key xs.length (by omega), h, List.take_length]
theorem pure_Memory_live {a : V} (h : q_Memory_live K a H Q E) : t_Memory_live K { nx := fun _ H1 => Q .non H1, rt := Q } [some a, none] H := by
  unfold t_Memory_live
  obtain ⟨A, M, rfl, hM, q⟩ := h
  obtain ⟨dx, hm⟩ := hM.hm
  simp [hm]
  refine kSeq_lc (xs := A.ea.map V.ref) (.inl (by rw [hM.ht]; rfl)) (by rw [List.length_map, hM.len]; have := hM.tl; omega)
    (fun i => match A.ea[i]?, M.tab[i]? with | some a, some e => if e.live then some (.ref a) else none | _, _ => none) (fun i x H' e hx K1 K0 h1 h0 => ?_) fun H' D hD e d => ?_
  · rw [List.getElem?_map] at hx
    cases ha : A.ea[i]? with
    | none => rw [ha] at hx; cases hx
    | some a =>
      rw [ha] at hx
      cases hx
      obtain ⟨en, dy, he, hp⟩ := hM.ent ha
      simp only [ha, he] at h1 h0
      simp [wipe, e.at hp]
      cases hl : en.live
      · exact h0 H' Out.refl (by simp [hl])
      · exact h1 _ H' Out.refl (by simp [hl])
  · simp [d]
    have z := q H' e
    unfold Mem.liveN at z
    rw [← got_filter hM.len (·.live) (fun i => match A.ea[i]?, M.tab[i]? with | some a, some e => if e.live then some (.ref a) else none | _, _ => none) (fun i e a he ha => by simp only [ha, he])] at z
    exact z
theorem pure_Memory_fits {a b : V} (h : q_Memory_fits K a b H Q E) : t_Memory_fits K { nx := fun _ H1 => Q .non H1, rt := Q } [some a, some b] H := by
  unfold t_Memory_fits
  obtain ⟨A, M, n, rfl, rfl, hM, q⟩ := h
  obtain ⟨dx, hm⟩ := hM.hm
  simp [hm, hM.ha, sp_Memory_live]
  by_cases h1 : M.fin + n ≤ M.arena.length
  · refine .inr ⟨h1, A, M, rfl, hM, fun H' e => ?_⟩
    simp [e.at hm, e.at hM.ht, hM.len]
    have z := q H' e
    unfold Mem.fits at z
    simpa [h1] using z
  · refine .inl ⟨by omega, ?_⟩
    have z := q H Out.refl
    unfold Mem.fits at z
    simpa [h1] using z
theorem mem_tab {H' : Hp} {A : MA} {M : Mem} (hM : MemAt K H' A M) {i : Nat} {x : V} (hx : (A.ea.map V.ref)[i]? = some x) : ∃ a e dy, x = .ref a ∧ A.ea[i]? = some a ∧ M.tab[i]? = some e ∧ e ∈ M.tab ∧ H' a = some (.ins (CE K) dy (entF e)) := by
  rw [List.getElem?_map] at hx
  cases ha : A.ea[i]? with
  | none => rw [ha] at hx; cases hx
  | some a =>
    rw [ha] at hx
    cases hx
    obtain ⟨e, dy, he, hp⟩ := hM.ent ha
    exact ⟨a, e, dy, rfl, rfl, he, List.mem_of_getElem? he, hp⟩
theorem pure_Memory_moving {a : V} (h : q_Memory_moving K a H Q E) : t_Memory_moving K { nx := fun _ H1 => Q .non H1, rt := Q } [some a, none, none] H := by
  unfold t_Memory_moving
  obtain ⟨A, M, rfl, hM, hs, q⟩ := h
  obtain ⟨dx, hm⟩ := hM.hm
  simp [hm]
  refine kEnum_for (xs := A.ea.map V.ref) (by rw [hM.ht]; rfl) (fun i σ' H' => (∃ v1 v2, σ' = [some (.ref A.m), v1, v2]) ∧ Ex H H') ⟨⟨_, _, rfl⟩, Out.refl⟩ (fun i σ' H' _ p => by rw [p.2.at hM.ht]; rfl) ?_ ?_
  · rintro i x σ' H' T hx ⟨⟨v1, v2, rfl⟩, e⟩ hT
    obtain ⟨y, en, dy, rfl, ha, he, hmem, hp⟩ := mem_tab hM hx
    refine gTup_at (xs := [.int i, .ref y]) (by rw [upd_same]; rfl) rfl ?_
    have hy : y ≠ T := ne_of_none (e.at hp) hT
    simp [hy, e.at hp]
    cases hl : en.live
    · simp
      exact e.new hT
    · simp [hs en hmem hl]
      exact e.new hT
  · rintro σ' H' ⟨⟨v1, v2, rfl⟩, e⟩
    exact q H' e
theorem pure_Memory_begin_move {a b c : V} (h : q_Memory_begin_move K a b c H Q E) : t_Memory_begin_move K { nx := fun _ H1 => Q .non H1, rt := Q } [some a, some b, some c, none, none] H := by
  unfold t_Memory_begin_move
  obtain ⟨A, M, i, x, e, z, rfl, rfl, rfl, hd, hs, h1, h2, h3, q⟩ := h
  have hM := hd.mem
  obtain ⟨dx, hm⟩ := hM.hm
  obtain ⟨dy, hx⟩ := hM.he i x e hd.at_ hd.ent
  simp [hm, sp_Memory__entry_at]
  refine ⟨A, M, i, x, e, rfl, rfl, hM, hd.at_, hd.ent, hd.live, ?_⟩
  simp [hm, sp_Memory_moving]
  refine ⟨A, M, rfl, hM, hs, fun H1 e1 => ?_⟩
  have hM1 := hM.ex e1
  have h4 : ¬ e.start ≤ z := by omega
  simp [h1, h2, h4, sp_is_count, e1.at hx, e1.at hm]
  refine kSeq_lc (xs := A.ea.map V.ref) (.inl (by rw [hM1.ht]; rfl)) (by rw [List.length_map, hM.len]; have := hM.tl; omega) (fun _ => some (.bl false)) (fun j y H2 e2 hy K1 K0 k1 k0 => ?_) fun H2 D hD e2 d => ?_
  · obtain ⟨p, en, dp, rfl, ha, he, hmem, hp⟩ := mem_tab hM1 hy
    simp [wipe, e2.at hp, e2.at (e1.at hx)]
    have k1' := k1 _ H2 Out.refl rfl
    cases hl : en.live
    · exact .inl ⟨rfl, k1'⟩
    · refine .inr ⟨rfl, ?_⟩
      by_cases hlt : en.start < e.start
      · refine .inr ⟨hlt, ?_⟩
        have h5 := h3 en hmem hl hlt
        refine ⟨p, en, rfl, ⟨dp, e2.at hp⟩, ?_⟩
        have h6 : ¬ z < en.start + en.size := by omega
        simp [h6]
        exact k1'
      · exact .inl ⟨by omega, k1'⟩
  · rw [got_const] at d
    refine any_const d ?_
    have hx2 := e2.at (e1.at hx)
    simp [hx2]
    have hM2 := hM1.ex e2
    exact q _ (Out.put ((e1.trans e2).mono (by simp)) (foot_e hd.at_)) (hM2.setEnt hd.at_)
theorem pure_Memory_settle {a b : V} (h : q_Memory_settle K a b H Q E) : t_Memory_settle K { nx := fun _ H1 => Q .non H1, rt := Q } [some a, some b, none] H := by
  unfold t_Memory_settle
  obtain ⟨A, M, z, rfl, rfl, hM, hs, h1, h2, h3, q⟩ := h
  obtain ⟨dx, hm⟩ := hM.hm
  simp [hm, sp_Memory_moving]
  refine ⟨A, M, rfl, hM, hs, fun H1 e1 => ?_⟩
  have hM1 := hM.ex e1
  simp [h1, h2, sp_is_count, e1.at hm]
  refine kSeq_lc (xs := A.ea.map V.ref) (.inl (by rw [hM1.ht]; rfl)) (by rw [List.length_map, hM.len]; have := hM.tl; omega) (fun _ => some (.bl false)) (fun j y H2 e2 hy K1 K0 k1 k0 => ?_) fun H2 D hD e2 d => ?_
  · obtain ⟨p, en, dp, rfl, ha, he, hmem, hp⟩ := mem_tab hM1 hy
    simp [wipe, e2.at hp]
    have k1' := k1 _ H2 Out.refl rfl
    cases hl : en.live
    · exact .inl ⟨rfl, k1'⟩
    · refine .inr ⟨rfl, ?_⟩
      have h5 := h3 en hmem hl
      refine ⟨p, en, rfl, ⟨dp, e2.at hp⟩, ?_⟩
      have h6 : ¬ z < en.start + en.size := by omega
      simp [h6]
      exact k1'
  · rw [got_const] at d
    refine any_const d ?_
    simp [e2.at (e1.at hm)]
    have hM2 := hM1.ex e2
    exact q _ (Out.put ((e1.trans e2).mono (by simp)) foot_m) hM2.setFin
end
end G

namespace G
open PySem L2 U
section
variable {K : PySem.W.Frag} [SitK K] {H : Hp} {Q : VK} {E : XK}
theorem least_got {es : List Ent} {n : Nat} (hn : n < es.length) (F : Nat → Option V) (hF : ∀ (i : Nat) e, es[i]? = some e → F i = if e.live then none else some (.int (i : Nat))) (hl : (es.filter (·.live)).length < es.length) :
    (got F es.length)[0]? = some (.int ((es.findIdx (fun e => !e.live) : Nat))) ∧ ∃ e, es[es.findIdx (fun e => !e.live)]? = some e ∧ e.live = false := by
  have key : ∀ m, m ≤ es.length → (∀ j e, j < m → es[j]? = some e → e.live = true) → got F m = [] := by
    intro m
    induction m with
    | zero => intro _ _; rfl
    | succ m ih =>
      intro hm h
      have he : es[m]? = some es[m] := List.getElem?_eq_getElem (by omega)
      have q := hF m _ he
      rw [if_pos (h m _ (by omega) he)] at q
      rw [got_none q]
      exact ih (by omega) fun j e hj => h j e (by omega)
  have more : ∀ (k m : Nat), m ≤ k → k ≤ es.length → ∀ v, (got F m)[0]? = some v → (got F k)[0]? = some v := by
    intro k
    induction k with
    | zero => intro m h1 h2 v hv; have : m = 0 := by omega
              subst this; exact hv
    | succ k ih =>
      intro m h1 h2 v hv
      by_cases e : m = k + 1
      · subst e; exact hv
      · have q := ih m (by omega) (by omega) v hv
        have hk : es[k]? = some es[k] := List.getElem?_eq_getElem (by omega)
        have f := hF k _ hk
        by_cases hl : (es[k]).live = true
        · rw [if_pos hl] at f
          rw [got_none f]
          exact q
        · rw [if_neg hl] at f
          rw [got_some f]
          rw [List.getElem?_append_left]
          · exact q
          · exact (List.getElem?_eq_some_iff.mp q).1
  have ex : es.findIdx (fun e => !e.live) < es.length := by
    apply List.findIdx_lt_length_of_exists
    apply Classical.byContradiction
    intro hc
    have all : ∀ e ∈ es, e.live = true := by
      intro e he
      apply Classical.byContradiction
      intro hne
      exact hc ⟨e, he, by simpa using hne⟩
    have : es.filter (·.live) = es := List.filter_eq_self.mpr all
    rw [this] at hl
    omega
  have hz := List.findIdx_getElem (w := ex)
  have hz2 : (es[es.findIdx (fun e => !e.live)]).live = false := by simpa using hz
  refine ⟨?_, _, List.getElem?_eq_getElem ex, hz2⟩
  have g0 : got F (es.findIdx (fun e => !e.live)) = [] := key _ (by omega) fun j e hj he => by
    have := List.not_of_lt_findIdx hj
    have hj2 : j < es.length := by omega
    rw [List.getElem?_eq_getElem hj2] at he
    cases he
    simpa using this
  have f := hF _ _ (List.getElem?_eq_getElem ex)
  rw [hz2] at f
  refine more es.length (es.findIdx (fun e => !e.live) + 1) (by omega) (Nat.le_refl _) _ ?_
  rw [got_some (y := .int ((es.findIdx (fun e => !e.live) : Nat))) (by simpa using f), g0]
  rfl
theorem pure_Memory_reserve {a b : V} (h : q_Memory_reserve K a b H Q E) : t_Memory_reserve K (fun c d _ H => E c d H) { nx := fun _ H1 => Q .non H1, rt := Q } [some a, some b, none, none, none] H := by
  unfold t_Memory_reserve
  obtain ⟨A, M, n, rfl, rfl, hM, qx, q⟩ := h
  obtain ⟨dx, hm⟩ := hM.hm
  simp [hm, sp_Memory_fits]
  refine ⟨A, M, n, rfl, rfl, hM, fun H1 e1 => ?_⟩
  cases hf : M.fits n with
  | false =>
    simp
    exact qx hf H1 e1
  | true =>
    have hM1 := hM.ex e1
    simp [e1.at hm]
    have hlt : M.liveN < M.tab.length := by
      unfold Mem.fits at hf
      simp at hf
      exact hf.2
    have hpos : 0 < M.tab.length := by omega
    obtain ⟨hget, e, he, hdead⟩ := least_got (es := M.tab) (n := 0) hpos (fun i => match M.tab[i]? with | some e => if e.live then none else some (.int (i : Nat)) | none => none) (fun i e he => by simp only [he]) hlt
    refine kEnum_lc (xs := A.ea.map V.ref) (by rw [hM1.ht]; rfl) (by rw [List.length_map, hM.len]; have := hM.tl; omega) (fun i => match M.tab[i]? with | some e => if e.live then none else some (.int (i : Nat)) | none => none) (fun j y H2 T e2 hy hT K1 K0 k1 k0 => ?_) fun H2 D hD e2 d => ?_
    · obtain ⟨p, en, dp, rfl, ha, he, hmem, hp⟩ := mem_tab hM1 hy
      refine gTup_at (xs := [.int j, .ref p]) (by rw [hT]; rfl) rfl ?_
      simp only [he] at k1 k0
      simp [wipe, e2.at hp]
      cases hl : en.live
      · exact k1 _ H2 Out.refl (by simp [hl])
      · exact k0 H2 Out.refl (by simp [hl])
    · have hM2 := hM1.ex e2
      have hm2 := e2.at (e1.at hm)
      rw [List.length_map, hM.len] at d
      have hL : M.least = M.tab.findIdx (fun e => !e.live) := rfl
      rw [← hL] at hget he
      obtain ⟨x, dy, hax, hx⟩ := hM2.enta he
      obtain ⟨hi, hax2⟩ := List.getElem?_eq_some_iff.mp hax
      obtain ⟨n1, n2, n3⟩ := hM2.ela (List.mem_of_getElem? hax)
      simp [d, hget, hm2, hM2.ht, hi, hax2, hx, n3, n3.symm]
      refine ⟨by decide, fun t ht => ?_⟩
      have ht2 : H2 t = none := by
        cases z : H2 t with
        | none => rfl
        | some o =>
          exfalso
          split at ht
          · cases ht
          · split at ht
            · cases ht
            · rw [z] at ht; cases ht
      have nt1 : t ≠ A.m := fun z => by rw [z] at ht2; rw [hm2] at ht2; cases ht2
      have nt2 : t ≠ x := fun z => by rw [z] at ht2; rw [hx] at ht2; cases ht2
      refine q hf e _ t he hdead ?_ upd_same ?_ ?_
      · exact e1.free (e2.free ht2)
      · refine Out.new (Out.put (Out.put ((e1.trans e2).mono (by simp)) (foot_e hax)) foot_m) ?_
        rw [upd_ne nt1, upd_ne nt2]
        exact ht2
      · have m3 := (hM2.setEnt (dx := dy) (e := e.fresh n M.fin) hax).setFin (dx := dx) (n := M.fin + n)
        refine m3.ex (Ex.up ?_)
        rw [upd_ne nt1, upd_ne nt2]
        exact ht2
theorem pure_Memory_state {a : V} (h : q_Memory_state K a H Q E) : t_Memory_state K { nx := fun _ H1 => Q .non H1, rt := Q } [some a, none] H := by
  unfold t_Memory_state
  obtain ⟨A, M, rfl, hM, q⟩ := h
  obtain ⟨dx, hm⟩ := hM.hm
  simp [hm, hM.ha]
  intro pa hpa
  have e0 : Ex H (upd H pa (.tup M.arena)) := Ex.up hpa
  have hM0 := hM.ex e0
  have nm : A.m ≠ pa := ne_of_none hm hpa
  simp [nm, hm]
  refine kSeq_lcR (xs := A.ea.map V.ref) (.inl (by rw [hM0.ht]; rfl)) (by rw [List.length_map, hM.len]; have := hM.tl; omega)
    (fun i acc H' => ∃ ts : List Addr, acc = ts.map V.ref ∧ ts.length = i ∧ ∀ (j : Nat) t e, ts[j]? = some t → M.tab[j]? = some e → H' t = some (.tup (rowV e))) ?_ ?_ (fun j y acc H2 e2 hp hy K1 K0 k1 k0 => ?_) fun H2 D acc hD e2 d hp => ?_
  · rintro i acc H' D l l' hD hl ⟨ts, rfl, hlen, ht⟩
    refine ⟨ts, rfl, hlen, fun j t e h1 h2 => ?_⟩
    have z := ht j t e h1 h2
    rw [upd_ne (ne_of z hl (by intro q; cases q))]
    exact z
  · intro H' _
    exact ⟨[], rfl, rfl, fun j t e h1 => by simp at h1⟩
  · obtain ⟨ts, rfl, hlen, ht⟩ := hp
    obtain ⟨p, en, dp, rfl, ha, he, hmem, hp⟩ := mem_tab hM0 hy
    simp [wipe, sp_Entry_row, e2.at hp]
    refine ⟨p, en, rfl, ⟨dp, e2.at hp⟩, fun t htn => ?_⟩
    refine k1 _ _ (Ex.up htn) ⟨ts ++ [t], by simp, by simp [hlen], fun j' t' e' h1 h2 => ?_⟩
    by_cases hj : j' < ts.length
    · rw [List.getElem?_append_left hj] at h1
      have z := ht j' t' e' h1 h2
      rw [upd_ne (ne_of_none z htn)]
      exact z
    · have : j' = ts.length := by
        have := (List.getElem?_eq_some_iff.mp h1).1
        simp at this
        omega
      subst this
      simp at h1
      subst h1
      rw [hlen, he] at h2
      cases h2
      exact upd_same
  · obtain ⟨ts, rfl, hlen, ht⟩ := hp
    rw [List.length_map, hM.len] at hlen
    simp [d]
    intro pr hpr
    have npa : H2 pa = some (.tup M.arena) := e2.at upd_same
    have nm2 : A.m ≠ pr := ne_of_none (e2.at (e0.at hm)) hpr
    simp [nm2, e2.at (e0.at hm)]
    refine ⟨by decide, fun p hp => ?_⟩
    have hp2 : H2 p = none ∧ p ≠ pr := by
      by_cases z : p = pr
      · rw [if_pos z] at hp; cases hp
      · rw [if_neg z] at hp; exact ⟨hp, z⟩
    have e3 : Ex H2 (upd H2 pr (.tup (ts.map V.ref))) := Ex.up hpr
    have e4 : Ex (upd H2 pr (.tup (ts.map V.ref))) (upd (upd H2 pr (.tup (ts.map V.ref))) p (.tup [.ref pa, .ref pr, .int M.fin])) := Ex.up (by rw [upd_ne hp2.2]; exact hp2.1)
    refine q _ p ?_ (((e0.trans e2).trans e3).trans e4) ⟨pa, pr, ts, upd_same, e4.at (e3.at npa), e4.at upd_same, hlen, fun j t e h1 h2 => e4.at (e3.at (ht j t e h1 h2))⟩
    exact e0.free (e2.free hp2.1)
end
end G

namespace G
open PySem L2 U
section
variable {K : PySem.W.Frag} [SitK K] {H : Hp} {Q : VK} {E : XK}
theorem pure_Memory___init__ {a b c : V} (h : q_Memory___init__ K a b c H Q E) : t_Memory___init__ K { nx := fun _ H1 => Q .non H1, rt := Q } [some a, some b, some c, none] H := by
  unfold t_Memory___init__
  obtain ⟨a, dx, n, m, rfl, rfl, rfl, hm, n1, n2, m1, m2, q⟩ := h
  simp [hm, sp_is_integer]
  refine ⟨by omega, by omega, by omega, by omega, by decide, fun p hp => ?_⟩
  have hpa : a ≠ p := ne_of_none hm hp
  refine ⟨⟨by omega, by simp [sizeLine]; omega⟩, fun p2 hp2 => ?_⟩
  have hp2p : p2 ≠ p := fun z => by rw [if_pos z] at hp2; cases hp2
  rw [if_neg hp2p] at hp2
  have hpa2 : a ≠ p2 := ne_of_none hm hp2
  have e1 : putF "_arena" (.ref p2) [] = [(("_arena" : Str), V.ref p2)] := by kernel_rfl
  simp [hpa, hpa2, hm, e1]
  generalize hH0 : upd (upd (upd H p (HO.lst [V.non])) p2 (HO.lst (List.replicate n V.non))) a (HO.ins (CM K) dx [(("_arena" : Str), V.ref p2)]) = H0
  have h0a : H0 a = some (HO.ins (CM K) dx [(("_arena" : Str), V.ref p2)]) := by rw [← hH0]; exact upd_same
  have h02 : H0 p2 = some (HO.lst (List.replicate n V.non)) := by rw [← hH0, upd_ne hpa2.symm]; exact upd_same
  have o0 : Out [a] H H0 := by
    rw [← hH0]
    refine Out.put (Out.new (Out.new Out.refl hp) ?_) (by simp)
    rw [upd_ne hp2p]; exact hp2
  refine kRng1_lcR (n := (m : Int)) (by omega) (by omega) (fun i acc H' => ∃ ts : List Addr, acc = ts.map V.ref ∧ ts.length = i ∧ ts.Nodup ∧ ∀ t ∈ ts, H0 t = none ∧ ∃ dx, H' t = some (.ins (CE K) dx (entF {}))) ?_ ?_ (fun j acc H2 e2 hp hj K1 K0 k1 k0 => ?_) fun H2 D acc hD e2 d hp => ?_
  · rintro i acc H' D l l' hD hl ⟨ts, rfl, hlen, hn, ht⟩
    refine ⟨ts, rfl, hlen, hn, fun t m => ?_⟩
    obtain ⟨h1, dx, h2⟩ := ht t m
    exact ⟨h1, dx, by rw [upd_ne (ne_of h2 hl (by intro q; cases q))]; exact h2⟩
  · intro H' _
    exact ⟨[], rfl, rfl, List.nodup_nil, fun t m => by simp at m⟩
  · obtain ⟨ts, rfl, hlen, hn, ht⟩ := hp
    simp [wipe, uMake, sp_Entry___init__]
    intro x dx hx hdx hxd
    refine ⟨x, dx, rfl, upd_same, rfl, ?_⟩
    have ex : Ex H2 (upd (upd H2 dx (.own x)) x (HO.ins (CE K) dx (entF {}))) := (Ex.up hdx).trans (Ex.up (by rw [upd_ne (fun z => hxd z.symm)]; exact hx))
    rw [upd_upd]
    refine k1 _ _ ex ⟨ts ++ [x], by simp, by simp [hlen], ?_, fun t m => ?_⟩
    · rw [List.nodup_append]
      refine ⟨hn, by simp, fun b hb c hc => ?_⟩
      obtain ⟨_, dy, h2⟩ := ht b hb
      simp at hc
      rw [hc]
      exact ne_of_none h2 hx
    · rw [List.mem_append] at m
      rcases m with m | m
      · obtain ⟨h1, dy, h2⟩ := ht t m
        exact ⟨h1, dy, ex.at h2⟩
      · simp at m
        subst m
        exact ⟨e2.free hx, dx, upd_same⟩
  · obtain ⟨ts, rfl, hlen, hn, ht⟩ := hp
    have hDa : a ≠ D := ne_of_none h0a hD
    have e2' : putF "_table" (.ref D) [(("_arena" : Str), V.ref p2)] = [(("_arena" : Str), V.ref p2), ("_table", V.ref D)] := by kernel_rfl
    have e3' : putF "_end" (.int 0) [(("_arena" : Str), V.ref p2), ("_table", V.ref D)] = memF p2 D 0 := by kernel_rfl
    simp [e2.at h0a, e2', e3']
    have hlen : ts.length = m := by simpa using hlen
    have n0 : ∀ t, H0 t = none → H t = none := fun t h => by
      rw [← hH0] at h
      cases z : H t with
      | none => rfl
      | some o =>
        have w1 : t ≠ a := fun y => by rw [y, upd_same] at h; cases h
        rw [upd_ne w1] at h
        have w2 : t ≠ p2 := fun y => by rw [y, upd_same] at h; cases h
        rw [upd_ne w2] at h
        have w3 : t ≠ p := fun y => by rw [y, upd_same] at h; cases h
        rw [upd_ne w3, z] at h
        cases h
    refine q _ ⟨a, p2, D, ts⟩ rfl ⟨⟨dx, upd_same⟩, ?_, ?_, by simp [hlen], fun i t e ht1 he => ?_, hn, ?_, ?_, by simp; omega, by simp; omega⟩ ?_ ?_
    · rw [upd_ne hpa2.symm]; exact e2.at h02
    · rw [upd_ne hDa.symm]; exact d
    · have m := List.mem_of_getElem? ht1
      obtain ⟨h1, dy, h2⟩ := ht t m
      have : e = {} := by
        have := List.getElem?_eq_some_iff.mp he
        obtain ⟨hi, e⟩ := this
        simp at e
        exact e.symm
      subst this
      exact ⟨dy, by rw [upd_ne (ne_of_none h0a h1).symm]; exact h2⟩
    · exact ne_of_none h02 hD
    · intro m
      exact ne_of_none h0a (ht a m).1 rfl
    · intro b o hb hn
      have hb' : b ≠ a := by simpa using hn
      rw [upd_ne hb']
      exact e2.at (o0 b o hb hn)
    · intro b hb
      simp at hb
      rcases hb with rfl | rfl | hb
      · exact hp2
      · exact n0 _ hD
      · exact n0 _ (ht b hb).1
theorem MemAt.newArena {A : MA} {M : Mem} {H0 : Hp} {la dx : Addr} {xs : List V} {n : Int} (h : MemAt K H A M) (hla : H la = none) (hm : H0 A.m = some (.ins (CM K) dx (memF la A.lt n))) (h0 : H0 la = some (.lst xs)) (hk : ∀ b o, b ≠ A.m → H b = some o → H0 b = some o) (hl : xs.length ≤ 10000) :
    MemAt K H0 { A with la := la } ⟨xs, M.tab, n⟩ := by
  refine ⟨⟨dx, hm⟩, h0, hk _ _ h.mlt.symm h.ht, h.len, fun i a e ha he => ?_, h.nd, ?_, h.mne, hl, h.tl⟩
  · obtain ⟨dy, q⟩ := h.he i a e ha he
    exact ⟨dy, hk _ _ (h.ela (List.mem_of_getElem? ha)).2.2 q⟩
  · exact (ne_of_none h.ht hla).symm
@[simp] theorem pt_entF_toO (e : Ent) (o : Option Int) : putF "to" (optI o) (entF e) = entF { e with to := o } := by cases o <;> simp
theorem take_set {α : Type} {xs ys : List α} {i : Nat} {y : α} (h : xs.length = ys.length) (hy : ys[i]? = some y) : (ys.take i ++ xs.drop i).set i y = ys.take (i + 1) ++ xs.drop (i + 1) := by
  obtain ⟨hi, e⟩ := List.getElem?_eq_some_iff.mp hy
  have hl : (ys.take i).length = i := by rw [List.length_take]; omega
  have hx : i < xs.length := by omega
  rw [List.take_succ, hy]
  rw [List.drop_eq_getElem_cons hx]
  rw [List.set_append_right _ _ (by omega), hl, Nat.sub_self, List.set_cons_zero, List.append_assoc]
  rfl
theorem pure_Memory_take {a b : V} (h : q_Memory_take K a b H Q E) : t_Memory_take K { nx := fun _ H1 => Q .non H1, rt := Q } [some a, some b, none, none, none, none] H := by
  unfold t_Memory_take
  obtain ⟨A, M, N, p, rfl, rfl, hM, ⟨pa, pr, ts, h1, h2, h3, h4, h5⟩, l1, l2, q⟩ := h
  obtain ⟨dx, hm⟩ := hM.hm
  have npm : p ≠ A.m := ne_of h1 hm (by intro z; cases z)
  have npam : pa ≠ A.m := ne_of h2 hm (by intro z; cases z)
  have nprm : pr ≠ A.m := ne_of h3 hm (by intro z; cases z)
  simp
  refine ⟨_, rk_t (by rw [h1]; rfl), rfl, ?_⟩
  simp [hm, npam, h2]
  intro la hla
  have hla2 : la ≠ A.m ∧ H la = none := by
    by_cases z : la = A.m
    · rw [if_pos z] at hla; cases hla
    · rw [if_neg z] at hla; exact ⟨z, hla⟩
  simp [hla2.1.symm]
  generalize hH0 : upd (upd (upd H A.m (.ins (CM K) dx (memF A.la A.lt N.fin))) la (.lst N.arena)) A.m (.ins (CM K) dx (memF la A.lt N.fin)) = H0
  have hk : ∀ b o, b ≠ A.m → H b = some o → H0 b = some o := fun b o hb h => by
    rw [← hH0, upd_ne hb, upd_ne (ne_of_none h hla2.2), upd_ne hb]
    exact h
  have hM0 : MemAt K H0 { A with la := la } ⟨N.arena, M.tab, N.fin⟩ := hM.newArena (dx := dx) hla2.2 (by rw [← hH0]; exact upd_same) (by rw [← hH0, upd_ne hla2.1]; exact upd_same) hk (by have := hM.al; omega)
  have o0 : Out A.foot H H0 := fun b o hb hn => hk b o (fun z => hn (by rw [z]; simp [MA.foot])) hb
  refine kZipLT_for (xs := A.ea.map V.ref) (ys := ts.map V.ref) (by rw [hM0.ht]; rfl) (by rw [hk _ _ nprm h3]; rfl) (fun i σ' H' => (∃ x y, σ' = [some (.ref A.m), some (.ref p), some (.ref pa), some (.ref pr), x, y]) ∧ MemAt K H' { A with la := la } ⟨N.arena, N.tab.take i ++ M.tab.drop i, N.fin⟩ ∧ Out A.foot H H' ∧ Out A.foot H0 H')
    ⟨⟨_, _, rfl⟩, by simpa using hM0, o0, Out.refl⟩ ?_ ?_ ?_
  · rintro i σ' H' hi ⟨_, hM', o', o2⟩
    refine ⟨by rw [hM'.ht]; rfl, ?_⟩
    rw [o' pr _ h3 ?_]
    · rfl
    · intro z
      have : pr = A.m ∨ pr = A.la ∨ pr = A.lt ∨ pr ∈ A.ea := by simpa [MA.foot] using z
      rcases this with z | z | z | z
      · exact nprm z
      · rw [z, hM.ha] at h3; cases h3
      · rw [z, hM.ht] at h3; cases h3
      · obtain ⟨j, hj⟩ := List.getElem?_of_mem z
        obtain ⟨e, dy, _, he⟩ := hM.ent hj
        rw [he] at h3; cases h3
  · rintro i x y σ' H' T hx hy ⟨⟨s4, s5, rfl⟩, hM', o', o2⟩ hT
    obtain ⟨ea, _, rfl⟩ : ∃ ea, A.ea[i]? = some ea ∧ x = .ref ea := by
      rw [List.getElem?_map] at hx
      cases z : A.ea[i]? with
      | none => rw [z] at hx; cases hx
      | some ea => rw [z] at hx; cases hx; exact ⟨ea, rfl, rfl⟩
    obtain ⟨t, ht, rfl⟩ : ∃ t, ts[i]? = some t ∧ y = .ref t := by
      rw [List.getElem?_map] at hy
      cases z : ts[i]? with
      | none => rw [z] at hy; cases hy
      | some ea => rw [z] at hy; cases hy; exact ⟨ea, rfl, rfl⟩
    rename_i hea
    have hin : i < N.tab.length := by
      have := (List.getElem?_eq_some_iff.mp ht).1
      omega
    obtain ⟨e, he⟩ : ∃ e, N.tab[i]? = some e := ⟨_, List.getElem?_eq_getElem hin⟩
    have hrow := h5 i t e ht he
    obtain ⟨e0, dy, he0, hent⟩ := hM'.ent hea
    have hte : t ∉ A.foot := by
      intro z
      have : t = A.m ∨ t = A.la ∨ t = A.lt ∨ t ∈ A.ea := by simpa [MA.foot] using z
      rcases this with z | z | z | z
      · rw [z, hm] at hrow; cases hrow
      · rw [z, hM.ha] at hrow; cases hrow
      · rw [z, hM.ht] at hrow; cases hrow
      · obtain ⟨j, hj⟩ := List.getElem?_of_mem z
        obtain ⟨e, dy, _, he⟩ := hM.ent hj
        rw [he] at hrow; cases hrow
    have hrow' : H' t = some (.tup (rowV e)) := o' t _ hrow hte
    have nT1 : t ≠ T := ne_of_none hrow' hT
    have nT2 : ea ≠ T := ne_of_none hent hT
    refine gTup_at (xs := [.ref ea, .ref t]) (by rw [upd_same]; rfl) rfl ?_
    simp
    refine uSl_t (xs := rowV e) (by rw [upd_ne nT1, hrow']; rfl) (by simp [rowV, HT.sIx]) fun p1 hp1 => ?_
    have c1 : cutV (rowV e) none (some 7) = [.int e.stamp, .bl e.live, .int e.size, .int e.start, .int e.filled, optI e.to, .int e.done] := rfl
    have nT3 : ea ≠ p1 := ne_of_none (H := upd H' T _) (by rw [upd_ne nT2]; exact hent) hp1
    have nT4 : t ≠ p1 := ne_of_none (H := upd H' T _) (by rw [upd_ne nT1]; exact hrow') hp1
    refine ⟨p1, rfl, cutV (rowV e) none (some 7), rk_t (by rw [upd_same]; rfl), (by rw [c1]; rfl), ?_⟩
    rw [c1]
    simp [nT2, nT3, hent]
    have nte : t ≠ ea := ne_of hrow' hent (by intro z; cases z)
    refine uSl_t (xs := rowV e) (by rw [upd_ne nte, upd_ne nT4, upd_ne nT1, hrow']; rfl) (by simp [rowV, HT.sIx]) fun p2 hp2 => ?_
    have c2 : cutV (rowV e) (some 7) none = [.int e.mark, .bl e.black] := rfl
    have nT5 : ea ≠ p2 := ne_of_none (H := upd (upd (upd H' T _) p1 _) ea _) upd_same hp2
    refine ⟨p2, rfl, cutV (rowV e) (some 7) none, rk_t (by rw [upd_same]; rfl), (by rw [c2]; rfl), ?_⟩
    rw [c2]
    simp [nT5]
    have m1 := ((hM'.ex (Ex.up (o := .tup [.ref ea, .ref t]) hT)).ex (Ex.up (o := .tup [.int e.stamp, .bl e.live, .int e.size, .int e.start, .int e.filled, optI e.to, .int e.done]) hp1))
    have m2 := (m1.setEnt (dx := dy) (a := ea) (i := i) (e := { e with mark := e0.mark, black := e0.black }) hea).ex (Ex.up (o := .tup [.int e.mark, .bl e.black]) hp2)
    have m3 := m2.setEnt (dx := dy) (a := ea) (i := i) (e := e) hea
    have fe : ea ∈ A.foot := by simp [MA.foot, List.mem_of_getElem? hea]
    have oo : Out A.foot H' _ := ((((Out.refl.new (o := .tup [.ref ea, .ref t]) hT).new (o := .tup [.int e.stamp, .bl e.live, .int e.size, .int e.start, .int e.filled, optI e.to, .int e.done]) hp1).put fe).new (o := .tup [.int e.mark, .bl e.black]) hp2).put (o := .ins (CE K) dy (entF e)) fe
    refine ⟨?_, o'.trans oo, o2.trans oo⟩
    have z := take_set (i := i) (y := e) (xs := M.tab) (ys := N.tab) l2 he
    rw [← z]
    simp only [List.set_set] at m3
    exact m3
  · rintro σ' H' ⟨_, hM', o', _⟩
    rw [show min (A.ea.map V.ref).length (ts.map V.ref).length = N.tab.length by simp [hM.len, h4, l2]] at hM'
    rw [List.take_length, List.drop_eq_nil_of_le (by omega), List.append_nil] at hM'
    exact q H' la hla2.2 o' hM'
end
end G

namespace G
open PySem L2 U
structure Ent.Ok (e : Ent) : Prop where
  stamp : 0 ≤ e.stamp
  size : 0 ≤ e.size
  start : 0 ≤ e.start
  filled : 0 ≤ e.filled
  done : e.done = 0
  mark : 0 ≤ e.mark
  to : e.to = none
def Ent.apart (e f : Ent) : Prop := e.start + e.size ≤ f.start ∨ f.start + f.size ≤ e.start
structure Mem.Sound (M : Mem) : Prop where
  a1 : 1 ≤ M.arena.length
  a2 : M.arena.length ≤ 10000
  t1 : 1 ≤ M.tab.length
  t2 : M.tab.length ≤ 1000
  f0 : 0 ≤ M.fin
  f1 : M.fin ≤ M.arena.length
  vals : ∀ v ∈ M.arena, v = .non ∨ ∃ i, v = .int i
  ok : ∀ e ∈ M.tab, e.Ok
  span : ∀ e ∈ M.tab, e.live = true → 1 ≤ e.size ∧ e.filled ≤ e.size ∧ e.start + e.size ≤ M.fin
  dis : ∀ (i j : Nat) e f, i ≠ j → M.tab[i]? = some e → M.tab[j]? = some f → e.live = true → f.live = true → e.apart f
def q_is_row (_ : PySem.W.Frag) : V → Hp → VK → XK → Prop := fun v H Q _ => ∃ (t : Addr) (e : Ent), v = .ref t ∧ H t = some (.tup (rowV e)) ∧ e.Ok ∧ ∀ H', Ex H H' → Q (.bl true) H'
def q_is_sound (_ : PySem.W.Frag) : V → V → Hp → VK → XK → Prop := fun v f H Q _ => ∃ (p : Addr) (ts : List Addr) (M : Mem), v = .ref p ∧ f = .int M.fin ∧ H p = some (.tup (ts.map V.ref)) ∧ ts.length = M.tab.length ∧ (∀ (i : Nat) t e, ts[i]? = some t → M.tab[i]? = some e → H t = some (.tup (rowV e))) ∧ M.Sound ∧ ∀ H', Ex H H' → Q (.bl true) H'
def q_is_state (_ : PySem.W.Frag) : V → Hp → VK → XK → Prop := fun v H Q _ => ∃ (p : Addr) (M : Mem), v = .ref p ∧ StAt H p M ∧ M.Sound ∧ ∀ H', Ex H H' → Q (.bl true) H'
def q_restored (K : PySem.W.Frag) : V → Hp → VK → XK → Prop := fun v H Q _ => ∃ (p : Addr) (M : Mem), v = .ref p ∧ StAt H p M ∧ M.Sound ∧ ∀ H' A, MemAt K H' A M → Ex H H' → (∀ b ∈ A.foot, H b = none) → Q (.ref A.m) H'
end G

namespace G
open PySem L2
def sp_is_row (K : PySem.W.Frag) : Sp := U.S1 (q_is_row K)
def sp_is_sound (K : PySem.W.Frag) : Sp := U.S2 (q_is_sound K)
def sp_is_state (K : PySem.W.Frag) : Sp := U.S1 (q_is_state K)
def sp_restored (K : PySem.W.Frag) : Sp := U.S1 (q_restored K)
def t_is_row (K : PySem.W.Frag) : TS :=
  (tSeq (tIfS (tOr (tNot (U.tTru K (tCB (U.uIsi K) (tCons (tVar 0) (tCons (tC (.ty "tuple")) tNil))))) (tTest (tOp (U.uNe K) (tCB (U.uLen K) (tCons (tVar 0) tNil)) (tC (.int 9))))) (tRet (tC (.bl false))) tNext)
  (tSeq (tAsg (tVar 0) (gTup K 9 (gCons (gName 1) (gCons (gName 2) (gCons (gName 3) (gCons (gName 4) (gCons (gName 5) (gCons (gName 6) (gCons (gName 7) (gCons (gName 8) (gCons (gName 9) gNil)))))))))))
  (tSeq (tIfS (tOr (tNot (U.tTru K (tCB (U.uIsi K) (tCons (tVar 2) (tCons (tC (.ty "bool")) tNil))))) (tOr (tNot (U.tTru K (tCB (U.uIsi K) (tCons (tVar 9) (tCons (tC (.ty "bool")) tNil))))) (tNot (tOr (tTest (tOp U.uIsN (tVar 6) (tC .non))) (U.tTru K (U.uCall (sp_is_count K) E0 (tCons (tVar 6) tNil))))))) (tRet (tC (.bl false))) tNext)
  (tRet (tCB (U.uAll K) (tCons (tLc (U.iSeq K (tTup (tCons (tVar 1) (tCons (tVar 3) (tCons (tVar 4) (tCons (tVar 5) (tCons (tVar 7) (tCons (tVar 8) tNil)))))))) (gName 10) tYes (U.uCall (sp_is_count K) E0 (tCons (tVar 10) tNil)) [10]) tNil))))))
def t_is_sound (K : PySem.W.Frag) : TS :=
  (tSeq (tAsg (tLst tNil) (gName 2))
  (tSeq (tAsg (tC (.int 0)) (gName 3))
  (tSeq (tFor (U.iSeq K (tVar 0)) (gTup K 9 (gCons (gName 4) (gCons (gName 5) (gCons (gName 6) (gCons (gName 7) (gCons (gName 8) (gCons (gName 9) (gCons (gName 10) (gCons (gName 4) (gCons (gName 4) gNil)))))))))) (tSeq (tIfS (tNot (U.tTru K (tVar 5))) tCont tNext)
  (tSeq (tIfS (tOr (tTest (tOp (U.uLt K) (tVar 6) (tC (.int 1)))) (tOr (tTest (tOp U.uGt (tVar 8) (tVar 6))) (tOr (tTest (tOp U.uGt (tOp (U.uAdd K) (tVar 7) (tVar 6)) (tVar 1))) (tTest (tOp U.uGt (tVar 10) (tIf (tTest (tOp U.uIsN (tVar 9) (tC .non))) (tC (.int 0)) (tVar 6))))))) (tRet (tC (.bl false))) tNext)
  (tSeq (tIfS (tAnd (tTest (tOp U.uNotN (tVar 9) (tC .non))) (tTest (tOp U.uGe (tVar 9) (tVar 7)))) (tRet (tC (.bl false))) tNext)
  (tSeq (tAug 3 (tIf (tTest (tOp U.uIsN (tVar 9) (tC .non))) (tC (.int 0)) (tC (.int 1))) (ipI fun i j => i + j))
  (tDrop (tBM K "list" rAppend (tVar 2) (tCons (tTup (tCons (tIf (tTest (tOp U.uIsN (tVar 9) (tC .non))) (tVar 7) (tVar 9)) (tCons (tOp (U.uAdd K) (tVar 7) (tVar 6)) tNil))) tNil))))))))
  (tSeq (tAsg (tCB (rSortedPO K) (tCons (tVar 2) tNil)) (gName 2))
  (tRet (tAndV (tOp (U.uLt K) (tVar 3) (tC (.int 2))) (tCB (U.uAll K) (tCons (tLc (iZip K (tCons (tVar 2) (tCons (tSl (U.uSl K) (tVar 2) (tPart (tC (.int 1))) tNoPart) tNil))) (gTup K 2 (gCons (gName 11) (gCons (gName 12) gNil))) tYes (tOp U.uLe (tOp (U.uIx K) (tVar 11) (tC (.int 1))) (tOp (U.uIx K) (tVar 12) (tC (.int 0)))) [11, 12]) tNil))))))))
def t_is_state (K : PySem.W.Frag) : TS :=
  (tSeq (tIfS (tOr (tNot (U.tTru K (tCB (U.uIsi K) (tCons (tVar 0) (tCons (tC (.ty "tuple")) tNil))))) (tTest (tOp (U.uNe K) (tCB (U.uLen K) (tCons (tVar 0) tNil)) (tC (.int 3))))) (tRet (tC (.bl false))) tNext)
  (tSeq (tAsg (tVar 0) (gTup K 3 (gCons (gName 1) (gCons (gName 2) (gCons (gName 3) gNil)))))
  (tSeq (tIfS (tOr (tNot (U.tTru K (tCB (U.uIsi K) (tCons (tVar 1) (tCons (tC (.ty "tuple")) tNil))))) (tNot (U.tTru K (tCB (U.uIsi K) (tCons (tVar 2) (tCons (tC (.ty "tuple")) tNil)))))) (tRet (tC (.bl false))) tNext)
  (tSeq (tIfS (tOr (tNot (tTest (tChain U.uLe U.uLe (tC (.int 1)) (tCB (U.uLen K) (tCons (tVar 1) tNil)) (tC (.int 10000))))) (tOr (tNot (tTest (tChain U.uLe U.uLe (tC (.int 1)) (tCB (U.uLen K) (tCons (tVar 2) tNil)) (tC (.int 1000))))) (tOr (tNot (U.tTru K (U.uCall (sp_is_count K) E0 (tCons (tVar 3) tNil)))) (tTest (tOp U.uGt (tVar 3) (tCB (U.uLen K) (tCons (tVar 1) tNil))))))) (tRet (tC (.bl false))) tNext)
  (tSeq (tIfS (tOr (tNot (U.tTru K (tCB (U.uAll K) (tCons (tLc (U.iSeq K (tVar 1)) (gName 4) tYes (U.uCall (sp_is_value K) E0 (tCons (tVar 4) tNil)) [4]) tNil)))) (tNot (U.tTru K (tCB (U.uAll K) (tCons (tLc (U.iSeq K (tVar 2)) (gName 5) tYes (U.uCall (sp_is_row K) E0 (tCons (tVar 5) tNil)) [5]) tNil))))) (tRet (tC (.bl false))) tNext)
  (tRet (U.uCall (sp_is_sound K) E0 (tCons (tVar 2) (tCons (tVar 3) tNil)))))))))
def t_restored (K : PySem.W.Frag) : TS :=
  (tSeq (tIfS (tNot (U.tTru K (U.uCall (sp_is_state K) E0 (tCons (tVar 0) tNil)))) tNever tNext)
  (tSeq (tAsg (U.uMake (He.ga K "Memory") (sp_Memory___init__ K) E0 (tCons (tCB (U.uLen K) (tCons (tOp (U.uIx K) (tVar 0) (tC (.int 0))) tNil)) (tCons (tCB (U.uLen K) (tCons (tOp (U.uIx K) (tVar 0) (tC (.int 1))) tNil)) tNil))) (gName 1))
  (tSeq (tDrop (U.uMeth (He.ga K "Memory") "take" (sp_Memory_take K) E0 (tVar 1) (tCons (tVar 0) tNil)))
  (tRet (tVar 1)))))
end G

namespace G
open PySem L2 U
section
variable {K : PySem.W.Frag} [SitK K] {H : Hp} {Q : VK} {E : XK}
theorem cnt_all {xs : List V} (hx : ∀ x ∈ xs, ∃ i : Int, x = .int i ∧ 0 ≤ i) {i : Nat} {σ : L2.St} {a : Addr} (ha : rk (H a) = .t xs) (hl : xs.length ≤ 1000000) (hi : i < σ.length) (q : ∀ H', Ex H H' → Q (.bl true) H') :
    kSeq K (.ref a) H (rLc (gName i) tYes (uCall (S1 (q_is_count K)) E0 (tCons (tVar i) tNil)) [i] σ fun x H1 => uAll K [x] H1 Q) := by
  refine kSeq_lc (xs := xs) (.inr ha) hl (fun _ => some (.bl true)) (fun j x H' e hj K1 K0 k1 k0 => ?_) fun H' D hD e d => ?_
  · obtain ⟨z, rfl, hz⟩ := hx x (List.mem_of_getElem? hj)
    have := k1 (.bl true) H' Out.refl rfl
    simp [wipe, hi, hz, this]
  · rw [got_const] at d
    exact all_const d (q H' e)
theorem pure_is_row {a : V} (h : q_is_row K a H Q E) : t_is_row K { nx := fun _ H1 => Q .non H1, rt := Q } [some a, none, none, none, none, none, none, none, none, none, none] H := by
  unfold t_is_row
  obtain ⟨t, e, rfl, ht, he, q⟩ := h
  have l9 : (rowV e).length = 9 := rfl
  simp [ht, sp_is_count, l9]
  refine ⟨_, rk_t (by rw [ht]; rfl), rfl, ?_⟩
  simp [rowV, he.to]
  refine ⟨by decide, fun p hp => ?_⟩
  refine cnt_all (xs := [.int e.stamp, .int e.size, .int e.start, .int e.filled, .int e.done, .int e.mark]) (fun x m => ?_) (by rw [upd_same]; rfl) (by simp) (by simp) (fun H' e' => q H' ((Ex.up hp).trans e'))
  simp at m
  rcases m with rfl | rfl | rfl | rfl | rfl | rfl
  · exact ⟨_, rfl, he.stamp⟩
  · exact ⟨_, rfl, he.size⟩
  · exact ⟨_, rfl, he.start⟩
  · exact ⟨_, rfl, he.filled⟩
  · exact ⟨_, rfl, by rw [he.done]; decide⟩
  · exact ⟨_, rfl, he.mark⟩
theorem pure_is_sound {a b : V} (h : q_is_sound K a b H Q E) : t_is_sound K { nx := fun _ H1 => Q .non H1, rt := Q } [some a, some b, none, none, none, none, none, none, none, none, none, none, none] H := by
  unfold t_is_sound
  obtain ⟨p, ts, M, rfl, rfl, hp, hl, ht, hS, q⟩ := h
  simp
  intro l hl0
  have npl : p ≠ l := ne_of_none hp hl0
  have tab_at : ∀ {i : Nat} {y : V}, (ts.map V.ref)[i]? = some y → ∃ t e, y = .ref t ∧ M.tab[i]? = some e ∧ H t = some (.tup (rowV e)) := by
    intro i y hy
    rw [List.getElem?_map] at hy
    cases z : ts[i]? with
    | none => rw [z] at hy; cases hy
    | some t =>
      rw [z] at hy
      cases hy
      have hi := (List.getElem?_eq_some_iff.mp z).1
      have hi2 : i < M.tab.length := by omega
      exact ⟨t, _, rfl, List.getElem?_eq_getElem hi2, ht i t _ z (List.getElem?_eq_getElem hi2)⟩
  refine kSeq_for (xs := ts.map V.ref) (.inr (by rw [upd_ne npl, hp]; rfl)) (fun i σ' H' => (∃ s4 s5 s6 s7 s8 s9 s10 s11 s12, σ' = [some (.ref p), some (.int M.fin), some (.ref l), some (.int 0), s4, s5, s6, s7, s8, s9, s10, s11, s12]) ∧ Ex H H' ∧
      ∃ acc : List (Addr × Nat), H' l = some (.lst (acc.map fun x => V.ref x.1)) ∧ acc.length ≤ i ∧ (∀ x ∈ acc, x.2 < i ∧ ∃ e, M.tab[x.2]? = some e ∧ e.live = true ∧ H' x.1 = some (.tup [.int e.start, .int (e.start + e.size)])) ∧ acc.Pairwise (fun x y => x.1 ≠ y.1 ∧ x.2 ≠ y.2))
    ⟨⟨_, _, _, _, _, _, _, _, _, rfl⟩, Ex.up hl0, [], upd_same, Nat.le_refl _, fun x m => by simp at m, List.Pairwise.nil⟩ ?_ ?_ ?_
  · rintro i σ' H' hi ⟨_, e, _⟩
    rw [upd_ne npl, hp, e.at hp]
  · rintro i x σ' H' hx ⟨⟨s4, s5, s6, s7, s8, s9, s10, s11, s12, rfl⟩, e1, acc, h1, h2, h3, h4⟩
    obtain ⟨t, e, rfl, he, hrow⟩ := tab_at hx
    have ho := hS.ok e (List.mem_of_getElem? he)
    have hi2 : i < M.tab.length := (List.getElem?_eq_some_iff.mp he).1
    refine gTup_at (xs := rowV e) (by rw [e1.at hrow]; rfl) rfl ?_
    simp [rowV, ho.to]
    cases hlive : e.live with
    | false =>
      simp
      exact ⟨e1, acc, h1, by omega, fun x b m => by obtain ⟨h5, h6⟩ := h3 _ m; exact ⟨by omega, h6⟩, by simpa using h4⟩
    | true =>
      obtain ⟨s1, s2, s3⟩ := hS.span e (List.mem_of_getElem? he) hlive
      simp [h1, s1, s2, s3, ho.done]
      refine .inl (.inl (.inl ⟨by decide, fun p' hp' => ?_⟩))
      have nl : l ≠ p' := ne_of_none h1 hp'
      have ap : ∀ x ∈ acc, x.1 ≠ p' := fun x m => by
        obtain ⟨_, e2, _, _, h6⟩ := h3 x m
        exact ne_of_none h6 hp'
      have al : ∀ x ∈ acc, x.1 ≠ l := fun x m z => by
        obtain ⟨_, e2, _, _, h6⟩ := h3 x m
        rw [z, h1] at h6
        cases h6
      simp [nl]
      refine ⟨?_, ?_, acc ++ [(p', i)], by simp, by simp; omega, fun x b m => ?_, ?_⟩
      · have := hS.t2
        simp [sizeLine]
        omega
      · intro b o hb _
        rw [upd_ne (ne_of_none hb hl0), upd_ne (ne_of_none (e1.at hb) hp')]
        exact e1.at hb
      · rw [List.mem_append] at m
        rcases m with m | m
        · obtain ⟨h5, e2, h6, h7, h8⟩ := h3 _ m
          have n1 := ap _ m
          have n2 := al _ m
          simp at n1 n2
          refine ⟨by simp at h5; omega, e2, h6, h7, ?_⟩
          rw [if_neg n2, if_neg n1]
          exact h8
        · simp at m
          obtain ⟨rfl, rfl⟩ := m
          refine ⟨by omega, e, he, hlive, ?_⟩
          rw [if_neg nl.symm, if_pos rfl]
      · rw [List.pairwise_append]
        refine ⟨by simpa using h4, by simp, fun x hx y hy => ?_⟩
        simp at hy
        subst hy
        have := (h3 x hx).1
        exact ⟨ap x hx, by simp; omega⟩
  · rintro σ' H' ⟨⟨s4, s5, s6, s7, s8, s9, s10, s11, s12, rfl⟩, e1, acc, h1, h2, h3, h4⟩
    simp
    have hacc : acc.length ≤ 1000 := by
      have := hS.t2
      simp [hl] at h2
      omega
    let kk : V → Int × Int := fun v => match v with
      | .ref t => (match H' t with
        | some (.tup [.int a, .int b]) => (a, b)
        | _ => (0, 0))
      | _ => (0, 0)
    have hk : ∀ x ∈ acc, ∃ e, M.tab[x.2]? = some e ∧ e.live = true ∧ H' x.1 = some (.tup [.int e.start, .int (e.start + e.size)]) ∧ kk (.ref x.1) = (e.start, e.start + e.size) := fun x m => by
      obtain ⟨_, e, h5, h6, h7⟩ := h3 x m
      exact ⟨e, h5, h6, h7, by simp only [kk, h7]⟩
    refine ⟨l, acc.map fun x => V.ref x.1, kk, rfl, SqL.of h1, fun x m => ?_, fun ys l2 hsr hst hl2 => ?_⟩
    · obtain ⟨y, hy, rfl⟩ := List.mem_map.mp m
      obtain ⟨e, _, _, h7, h8⟩ := hk y hy
      exact ⟨y.1, rfl, by rw [h8]; exact h7⟩
    · simp
      have l2l : l ≠ l2 := ne_of_none h1 hl2
      refine uSl_l (xs := ys) (by rw [upd_same]; rfl) fun l3 hl3 => ?_
      have n23 : l2 ≠ l3 := ne_of_none (H := upd H' l2 _) upd_same hl3
      have c3 : cutV ys (some 1) none = ys.drop 1 := by
        have : HT.sIx ys.length 0 (some 1) = min 1 ys.length := by
          unfold HT.sIx
          simp
        have h2 : HT.sIx ys.length ys.length none = ys.length := by
          unfold HT.sIx
          simp
        unfold cutV
        rw [this, h2]
        cases ys with
        | nil => rfl
        | cons y ys =>
          simp
      rw [c3]
      have perm : ys.Perm (acc.map fun x => V.ref x.1) := hst.perm
      have e3 : Ex H' (upd (upd H' l2 (.lst ys)) l3 (.lst (ys.drop 1))) := (Ex.up hl2).trans (Ex.up hl3)
      have hly : ys.length = acc.length := by rw [perm.length_eq, List.length_map]
      have back : ∀ v ∈ ys, ∃ x ∈ acc, v = V.ref x.1 := fun v m => by
        obtain ⟨x, hx, e⟩ := List.mem_map.mp (perm.mem_iff.mp m)
        exact ⟨x, hx, e.symm⟩
      have nd : ys.Nodup := by
        rw [perm.nodup_iff]
        unfold List.Nodup
        rw [List.pairwise_map]
        exact h4.imp fun h z => h.1 (by injection z)
      have nd2 : ∀ x ∈ acc, ∀ y ∈ acc, x.1 ≠ y.1 → x.2 ≠ y.2 := fun x hx y hy hne => by
        obtain ⟨i1, z1⟩ := List.getElem?_of_mem hx
        obtain ⟨i2, z2⟩ := List.getElem?_of_mem hy
        obtain ⟨j1, w1⟩ := List.getElem?_eq_some_iff.mp z1
        obtain ⟨j2, w2⟩ := List.getElem?_eq_some_iff.mp z2
        rcases Nat.lt_trichotomy i1 i2 with h | h | h
        · have := List.pairwise_iff_getElem.mp h4 i1 i2 j1 j2 h
          rw [w1, w2] at this
          exact this.2
        · subst h
          rw [z1] at z2
          cases z2
          exact absurd rfl hne
        · have := List.pairwise_iff_getElem.mp h4 i2 i1 j2 j1 h
          rw [w1, w2] at this
          exact this.2.symm
      refine kZip_lc (xs := ys) (ys := ys.drop 1) (by rw [upd_ne n23, upd_same]; rfl) (by rw [upd_same]; rfl) (by omega) (fun _ => some (.bl true)) (fun j x y H2 T e2 hx hy hT K1 K0 k1 k0 => ?_) fun H2 D2 hD2 e2 d2 => ?_
      · refine gTup_at (xs := [x, y]) (by rw [hT]; rfl) rfl ?_
        rw [List.getElem?_drop] at hy
        obtain ⟨x', hx', rfl⟩ := back x (List.mem_of_getElem? hx)
        obtain ⟨y', hy', rfl⟩ := back y (List.mem_of_getElem? hy)
        obtain ⟨ex, q1, q2, q3, q4⟩ := hk x' hx'
        obtain ⟨ey, r1, r2, r3, r4⟩ := hk y' hy'
        have := k1 (.bl true) H2 Out.refl rfl
        have lt : ltP kk (.ref y'.1) (.ref x'.1) = false := by
          obtain ⟨i1, z1⟩ := List.getElem?_eq_some_iff.mp hx
          obtain ⟨i2, z2⟩ := List.getElem?_eq_some_iff.mp hy
          have := List.pairwise_iff_getElem.mp hsr j (1 + j) i1 i2 (by omega)
          rw [z1, z2] at this
          exact this
        have ne : x'.1 ≠ y'.1 := fun z => by
          obtain ⟨i1, z1⟩ := List.getElem?_eq_some_iff.mp hx
          obtain ⟨i2, z2⟩ := List.getElem?_eq_some_iff.mp hy
          have := List.pairwise_iff_getElem.mp nd j (1 + j) i1 i2 (by omega)
          rw [z1, z2, z] at this
          exact this rfl
        have le : ex.start + ex.size ≤ ey.start := by
          have ap := hS.dis _ _ ex ey (nd2 x' hx' y' hy' ne) q1 r1 q2 r2
          have s1 := (hS.span ex (List.mem_of_getElem? q1) q2).1
          have s2 := (hS.span ey (List.mem_of_getElem? r1) r2).1
          have lt2 := SrtO.lexB_no.mp lt
          rw [q4, r4] at lt2
          simp at lt2
          rcases ap with ap | ap
          · exact ap
          · exact absurd (lt2.1) (by omega)
        simp [wipe, e2.at (e3.at q3), e2.at (e3.at r3), le, this]
      · rw [got_const] at d2
        refine all_const d2 ?_
        exact q H2 ((e1.trans e3).trans e2)
theorem pure_is_state {a : V} (h : q_is_state K a H Q E) : t_is_state K { nx := fun _ H1 => Q .non H1, rt := Q } [some a, none, none, none, none, none] H := by
  unfold t_is_state
  obtain ⟨p, M, rfl, ⟨pa, pr, ts, h1, h2, h3, h4, h5⟩, hS, q⟩ := h
  simp [h1]
  refine ⟨_, rk_t (by rw [h1]; rfl), rfl, ?_⟩
  simp [h2, h3, sp_is_count, sp_is_value, sp_is_row, sp_is_sound]
  have := hS.a1; have := hS.a2; have := hS.t1; have := hS.t2; have := hS.f0; have := hS.f1
  simp [show (1 : Int) ≤ M.arena.length by omega, show (M.arena.length : Int) ≤ 10000 by omega, show (1 : Int) ≤ ts.length by omega, show (ts.length : Int) ≤ 1000 by omega, hS.f0, hS.f1]
  refine .inr (.inr (.inr (.inr (.inl ?_))))
  refine kSeq_lc (xs := M.arena) (.inr (by rw [h2]; rfl)) (by omega) (fun _ => some (.bl true)) (fun j x H' e hj K1 K0 k1 k0 => ?_) fun H1 D1 hD1 e1 d1 => ?_
  · have := k1 (.bl true) H' Out.refl rfl
    rcases hS.vals x (List.mem_of_getElem? hj) with rfl | ⟨z, rfl⟩
    · simp [wipe, this]
    · simp [wipe, this]
  · rw [got_const] at d1
    refine all_const d1 ?_
    simp
    refine kSeq_lc (xs := ts.map V.ref) (.inr (by rw [e1.at h3]; rfl)) (by simp; omega) (fun _ => some (.bl true)) (fun j x H' e hj K1 K0 k1 k0 => ?_) fun H2 D2 hD2 e2 d2 => ?_
    · rw [List.getElem?_map] at hj
      cases z : ts[j]? with
      | none => rw [z] at hj; cases hj
      | some t =>
        rw [z] at hj
        cases hj
        have hi := (List.getElem?_eq_some_iff.mp z).1
        have hi2 : j < M.tab.length := by omega
        have he : M.tab[j]? = some M.tab[j] := List.getElem?_eq_getElem hi2
        simp [wipe]
        exact ⟨t, _, rfl, e.at (e1.at (h5 j t _ z he)), hS.ok _ (List.mem_of_getElem? he), fun H3 e3 => k1 _ H3 e3 rfl⟩
    · rw [got_const] at d2
      refine all_const d2 ?_
      simp
      exact ⟨pr, ts, M, rfl, rfl, e2.at (e1.at h3), h4, fun i t e h6 h7 => e2.at (e1.at (h5 i t e h6 h7)), hS, fun H3 e3 => q H3 ((e1.trans e2).trans e3)⟩
theorem pure_restored {a : V} (h : q_restored K a H Q E) : t_restored K { nx := fun _ H1 => Q .non H1, rt := Q } [some a, none] H := by
  unfold t_restored
  obtain ⟨p, M, rfl, hS, hs, q⟩ := h
  simp [sp_is_state, sp_Memory___init__, sp_Memory_take]
  refine ⟨p, M, rfl, hS, hs, fun H1 e1 => ?_⟩
  have hS0 := hS
  obtain ⟨pa, pr, ts, h1, h2, h3, h4, h5⟩ := hS
  simp [e1.at h1, e1.at h2, e1.at h3, uMake, sp_Memory___init__]
  intro x dx hx hdx hxd
  have hx' : upd H1 dx (.own x) x = none := by rw [upd_ne (fun z => hxd z.symm)]; exact hx
  have ex : Ex H1 (upd (upd H1 dx (HO.own x)) x (HO.ins (He.ga K "Memory") dx [])) := (Ex.up hdx).trans (Ex.up hx')
  refine ⟨x, dx, M.arena.length, ts.length, rfl, rfl, rfl, upd_same, hs.a1, hs.a2, by rw [h4]; exact hs.t1, by rw [h4]; exact hs.t2, ?_⟩
  rintro H2 A rfl hM o2 nw
  refine ⟨rfl, ?_⟩
  obtain ⟨dm, hm⟩ := hM.hm
  have sx : ∀ b o, H1 b = some o → H2 b = some o := fun b o h => o2 b o (ex.at h) (by simp; exact ne_of_none h hx)
  have stx : StAt H2 p M := ⟨pa, pr, ts, sx _ _ (e1.at h1), sx _ _ (e1.at h2), sx _ _ (e1.at h3), h4, fun i t e h6 h7 => sx _ _ (e1.at (h5 i t e h6 h7))⟩
  simp [hm]
  refine ⟨A, _, M, p, rfl, rfl, hM, stx, by simp, by simp [h4], fun H3 la hla o3 hM3 => ?_⟩
  have fr : ∀ b ∈ A.foot, H1 b = none := by
    intro b hb
    simp [MA.foot] at hb
    rcases hb with rfl | hb
    · exact hx
    · have := nw b (by simpa using hb)
      cases z : H1 b with
      | none => rfl
      | some o => rw [ex.at z] at this; cases this
  refine q H3 { A with la := la } hM3 ?_ ?_
  · intro b o hb _
    have h1b := e1.at hb
    refine o3 b o (sx b o h1b) (fun m => ?_)
    rw [fr b m] at h1b; cases h1b
  · intro b hb
    have : b = la ∨ b ∈ A.foot := by
      simp [MA.foot] at hb ⊢
      rcases hb with hb | hb | hb | hb <;> simp [hb]
    rcases this with rfl | m
    · cases z : H b with
      | none => rfl
      | some o => rw [sx _ _ (e1.at z)] at hla; cases hla
    · exact e1.free (fr b m)
end
end G

namespace G
open PySem L2 U
/-! ### the law's own lists -/
structure One where
  slot : Nat
  o : Addr
  v : Addr
  start : Int
  vals : List V
  filled : Int
def oneF (s : Int) (v : Addr) (f : Int) : List (Key × V) := [(.inr "start", .int s), (.inr "values", .ref v), (.inr "filled", .int f)]
def wF (c : Int) (st lv : Addr) (e : Int) : List (Key × V) := [(.inr "cells", .int c), (.inr "stamps", .ref st), (.inr "live", .ref lv), (.inr "end", .int e)]
def liveF (os : List One) : List (Key × V) := os.map fun o => (.inl (o.slot : Int), .ref o.o)
structure WA where
  w : Addr
  st : Addr
  lv : Addr
structure WM where
  cells : Int
  stamps : List Int
  os : List One
  fin : Int
def WA.foot (B : WA) (os : List One) : List Addr := B.w :: B.st :: B.lv :: os.flatMap fun o => [o.o, o.v]
structure WAt (H : Hp) (B : WA) (W : WM) : Prop where
  hw : H B.w = some (.dK (wF W.cells B.st B.lv W.fin))
  hs : H B.st = some (.lst (W.stamps.map V.int))
  hl : rk (H B.lv) = .d (liveF W.os)
  hd : ∀ o ∈ W.os, H o.o = some (.dK (oneF o.start o.v o.filled))
  hv : ∀ o ∈ W.os, H o.v = some (.lst o.vals)
  ks : (W.os.map (·.slot)).Nodup
  nd : (W.os.map (·.o)).Nodup
  nv : (W.os.map (·.v)).Nodup
  sv : ∀ o ∈ W.os, o.v ≠ B.st
theorem liveF_len (os : List One) : (liveF os).length = os.length := by simp [liveF]
theorem valV_live : ∀ {os : List One} {o : One}, (os.map (·.slot)).Nodup → o ∈ os → valV (liveF os) (.inl (o.slot : Int)) = some (.ref o.o)
  | x :: os, o, hn, hm => by
    rw [List.map_cons, List.nodup_cons] at hn
    show valV ((Sum.inl (x.slot : Int), V.ref x.o) :: liveF os) _ = _
    rcases List.mem_cons.mp hm with rfl | hm
    · exact valV_pos rfl
    · have ne : x.slot ≠ o.slot := fun e => hn.1 (by rw [e]; exact List.mem_map.mpr ⟨o, hm, rfl⟩)
      rw [valV_neg (by intro e; apply ne; simp at e; omega)]
      exact valV_live hn.2 hm
theorem valV_dead : ∀ {os : List One} {i : Nat}, i ∉ os.map (·.slot) → valV (liveF os) (.inl (i : Int)) = none
  | [], _, _ => rfl
  | x :: os, i, h => by
    rw [List.map_cons, List.mem_cons, not_or] at h
    show valV ((Sum.inl (x.slot : Int), V.ref x.o) :: liveF os) _ = _
    rw [valV_neg (by intro e; apply h.1; simp at e; omega)]
    exact valV_dead h.2
theorem putK_live {os : List One} {i : Nat} {p : Addr} (h : i ∉ os.map (·.slot)) : putK (liveF os) (.inl (i : Int)) (.ref p) = liveF os ++ [(.inl (i : Int), .ref p)] := by
  unfold putK
  rw [valV_any, valV_dead h]
  rfl
theorem dropK_live {os : List One} {i : Nat} : dropK (liveF os) (.inl (i : Int)) = liveF (os.filter fun o => decide (o.slot ≠ i)) := by
  unfold dropK liveF
  induction os with
  | nil => rfl
  | cons x os ih =>
    rw [List.map_cons, List.filter_cons, List.filter_cons]
    by_cases e : x.slot = i
    · simp [e] at ih ⊢
      exact ih
    · have e2 : ¬ ((x.slot : Int) = (i : Int)) := by omega
      simp [e, e2] at ih ⊢
      exact ih
section
variable {K : PySem.W.Frag} {H H' : Hp} {B : WA} {W : WM} {j : Nat} {o : One}
theorem rk_d {a : Addr} {x : List (Key × V)} (h : rk (H a) = .d x) : ∃ u, H a = some u := by
  cases e : H a with
  | none => rw [e] at h; cases h
  | some u => exact ⟨u, rfl⟩
theorem WAt.mo (h : WAt H B W) (ho : o ∈ W.os) : o.o ∈ B.foot W.os := by
  simp only [WA.foot, List.mem_cons, List.mem_flatMap]
  exact .inr (.inr (.inr ⟨o, ho, by simp⟩))
theorem WAt.mv (h : WAt H B W) (ho : o ∈ W.os) : o.v ∈ B.foot W.os := by
  simp only [WA.foot, List.mem_cons, List.mem_flatMap]
  exact .inr (.inr (.inr ⟨o, ho, by simp⟩))
theorem WAt.frame (h : WAt H B W) (k : ∀ b u, b ∈ B.foot W.os → H b = some u → H' b = some u) : WAt H' B W where
  hw := k _ _ (by simp [WA.foot]) h.hw
  hs := k _ _ (by simp [WA.foot]) h.hs
  hl := by
    obtain ⟨u, e⟩ := rk_d h.hl
    rw [k _ _ (by simp [WA.foot]) e, ← e]
    exact h.hl
  hd := fun o ho => k _ _ (h.mo ho) (h.hd o ho)
  hv := fun o ho => k _ _ (h.mv ho) (h.hv o ho)
  ks := h.ks
  nd := h.nd
  nv := h.nv
  sv := h.sv
theorem WAt.ex (h : WAt H B W) (e : Ex H H') : WAt H' B W := h.frame fun b u _ q => e.at q
theorem WAt.out {S : List Addr} (h : WAt H B W) (e : Out S H H') (d : ∀ b ∈ B.foot W.os, b ∉ S) : WAt H' B W := h.frame fun b u m q => e b u q (d b m)
theorem WAt.alive (h : WAt H B W) {b : Addr} (hb : b ∈ B.foot W.os) : ∃ u, H b = some u := by
  simp only [WA.foot, List.mem_cons, List.mem_flatMap] at hb
  rcases hb with rfl | rfl | rfl | ⟨o, ho, hb⟩
  · exact ⟨_, h.hw⟩
  · exact ⟨_, h.hs⟩
  · exact rk_d h.hl
  · simp at hb
    rcases hb with rfl | rfl
    · exact ⟨_, h.hd o ho⟩
    · exact ⟨_, h.hv o ho⟩
theorem wF_ne_live {c e : Int} {st lv : Addr} {os : List One} : wF c st lv e ≠ liveF os := by
  intro z
  cases os with
  | nil => cases z
  | cons x os =>
    have z : (Sum.inr ("cells" : Str), V.int c) = ((Sum.inl (x.slot : Int) : Key), V.ref x.o) := (List.cons.inj z).1
    cases z
theorem oneF_ne_live {s f : Int} {v : Addr} {os : List One} : oneF s v f ≠ liveF os := by
  intro z
  cases os with
  | nil => cases z
  | cons x os =>
    have z : (Sum.inr ("start" : Str), V.int s) = ((Sum.inl (x.slot : Int) : Key), V.ref x.o) := (List.cons.inj z).1
    cases z
theorem WAt.w_lv (h : WAt H B W) : B.w ≠ B.lv := fun z => by
  have q := h.hl
  rw [← z, h.hw] at q
  exact wF_ne_live (by injection q)
theorem WAt.o_lv (h : WAt H B W) (ho : o ∈ W.os) : o.o ≠ B.lv := fun z => by
  have q := h.hl
  rw [← z, h.hd o ho] at q
  exact oneF_ne_live (by injection q)
theorem WAt.o_w (h : WAt H B W) (ho : o ∈ W.os) : o.o ≠ B.w := fun z => by
  have q := h.hw
  rw [← z, h.hd o ho] at q
  injection q with q
  injection q with q
  have := congrArg List.length q
  simp [oneF, wF] at this
theorem WAt.s_lv (h : WAt H B W) : B.st ≠ B.lv := fun z => by
  have q := h.hl
  rw [← z, h.hs] at q
  cases q
theorem WAt.v_lv (h : WAt H B W) (ho : o ∈ W.os) : o.v ≠ B.lv := fun z => by
  have q := h.hl
  rw [← z, h.hv o ho] at q
  cases q
theorem WAt.o_v {x : One} (h : WAt H B W) (ho : o ∈ W.os) (hx : x ∈ W.os) : o.o ≠ x.v := ne_of (h.hd o ho) (h.hv x hx) (by intro z; cases z)
theorem WAt.s_w (h : WAt H B W) : B.st ≠ B.w := ne_of h.hs h.hw (by intro z; cases z)
theorem WAt.o_s (h : WAt H B W) (ho : o ∈ W.os) : o.o ≠ B.st := ne_of (h.hd o ho) h.hs (by intro z; cases z)
theorem WAt.v_w (h : WAt H B W) (ho : o ∈ W.os) : o.v ≠ B.w := ne_of (h.hv o ho) h.hw (by intro z; cases z)
theorem set_mem {α : Type} {xs : List α} {j : Nat} {y x : α} (h : x ∈ xs.set j y) : (x = y ∧ j < xs.length) ∨ ∃ i, i ≠ j ∧ xs[i]? = some x := by
  obtain ⟨i, hi⟩ := List.getElem?_of_mem h
  by_cases e : i = j
  · subst e
    have hl := (List.getElem?_eq_some_iff.mp hi).1
    rw [List.length_set] at hl
    rw [List.getElem?_set_self hl] at hi
    cases hi
    exact .inl ⟨rfl, hl⟩
  · rw [List.getElem?_set_ne (Ne.symm e)] at hi
    exact .inr ⟨i, e, hi⟩
theorem map_ix {α β : Type} {f : α → β} {xs : List α} {i j : Nat} {x y : α} (hn : (xs.map f).Nodup) (hi : xs[i]? = some x) (hj : xs[j]? = some y) (h : f x = f y) : i = j := by
  refine nd_ix hn (x := f x) ?_ ?_
  · rw [List.getElem?_map, hi]; rfl
  · rw [List.getElem?_map, hj, h]; rfl
theorem map_set_same {α β : Type} {f : α → β} {xs : List α} {j : Nat} {x y : α} (hj : xs[j]? = some x) (h : f y = f x) : (xs.set j y).map f = xs.map f := by
  apply List.ext_getElem?
  intro i
  rw [List.getElem?_map, List.getElem?_map]
  by_cases e : i = j
  · subst e
    have hl := (List.getElem?_eq_some_iff.mp hj).1
    rw [List.getElem?_set_self hl, hj]
    simp [h]
  · rw [List.getElem?_set_ne (Ne.symm e)]
theorem liveF_set {os : List One} {o' : One} (hj : os[j]? = some o) (h1 : o'.slot = o.slot) (h2 : o'.o = o.o) : liveF (os.set j o') = liveF os := map_set_same hj (by rw [h1, h2])
theorem WAt.setOne (h : WAt H B W) (hj : W.os[j]? = some o) {s f : Int} : WAt (upd H o.o (.dK (oneF s o.v f))) B { W with os := W.os.set j { o with start := s, filled := f } } := by
  have ho := List.mem_of_getElem? hj
  refine ⟨?_, ?_, ?_, fun x hx => ?_, fun x hx => ?_, ?_, ?_, ?_, fun x hx => ?_⟩
  · rw [upd_ne (h.o_w ho).symm]; exact h.hw
  · rw [upd_ne (h.o_s ho).symm]; exact h.hs
  · show rk (upd H o.o _ B.lv) = .d (liveF (W.os.set j _))
    rw [upd_ne (h.o_lv ho).symm, liveF_set (o' := { o with start := s, filled := f }) hj rfl rfl]; exact h.hl
  · rcases set_mem hx with ⟨rfl, _⟩ | ⟨i, hij, hi⟩
    · exact upd_same
    · rw [upd_ne (fun z => hij (map_ix (f := fun o : One => o.o) h.nd hi hj z))]
      exact h.hd x (List.mem_of_getElem? hi)
  · rcases set_mem hx with ⟨rfl, _⟩ | ⟨i, hij, hi⟩
    · rw [upd_ne (h.o_v ho ho).symm]; exact h.hv o ho
    · have hx := List.mem_of_getElem? hi
      rw [upd_ne (h.o_v ho hx).symm]; exact h.hv x hx
  · show ((W.os.set j _).map (·.slot)).Nodup
    rw [map_set_same (f := fun o : One => o.slot) (y := { o with start := s, filled := f }) hj rfl]; exact h.ks
  · show ((W.os.set j _).map (·.o)).Nodup
    rw [map_set_same (f := fun o : One => o.o) (y := { o with start := s, filled := f }) hj rfl]; exact h.nd
  · show ((W.os.set j _).map (·.v)).Nodup
    rw [map_set_same (f := fun o : One => o.v) (y := { o with start := s, filled := f }) hj rfl]; exact h.nv
  · rcases set_mem hx with ⟨rfl, _⟩ | ⟨i, hij, hi⟩
    · exact h.sv o ho
    · exact h.sv x (List.mem_of_getElem? hi)
theorem WAt.setVals (h : WAt H B W) (hj : W.os[j]? = some o) {xs : List V} : WAt (upd H o.v (.lst xs)) B { W with os := W.os.set j { o with vals := xs } } := by
  have ho := List.mem_of_getElem? hj
  refine ⟨?_, ?_, ?_, fun x hx => ?_, fun x hx => ?_, ?_, ?_, ?_, fun x hx => ?_⟩
  · rw [upd_ne (h.v_w ho).symm]; exact h.hw
  · rw [upd_ne (h.sv o ho).symm]; exact h.hs
  · show rk (upd H o.v _ B.lv) = .d (liveF (W.os.set j _))
    rw [upd_ne (h.v_lv ho).symm, liveF_set (o' := { o with vals := xs }) hj rfl rfl]; exact h.hl
  · rcases set_mem hx with ⟨rfl, _⟩ | ⟨i, hij, hi⟩
    · rw [upd_ne (h.o_v ho ho)]; exact h.hd o ho
    · have hx := List.mem_of_getElem? hi
      rw [upd_ne (h.o_v hx ho)]; exact h.hd x hx
  · rcases set_mem hx with ⟨rfl, _⟩ | ⟨i, hij, hi⟩
    · exact upd_same
    · rw [upd_ne (fun z => hij (map_ix (f := fun o : One => o.v) h.nv hi hj z))]
      exact h.hv x (List.mem_of_getElem? hi)
  · show ((W.os.set j _).map (·.slot)).Nodup
    rw [map_set_same (f := fun o : One => o.slot) (y := { o with vals := xs }) hj rfl]; exact h.ks
  · show ((W.os.set j _).map (·.o)).Nodup
    rw [map_set_same (f := fun o : One => o.o) (y := { o with vals := xs }) hj rfl]; exact h.nd
  · show ((W.os.set j _).map (·.v)).Nodup
    rw [map_set_same (f := fun o : One => o.v) (y := { o with vals := xs }) hj rfl]; exact h.nv
  · rcases set_mem hx with ⟨rfl, _⟩ | ⟨i, hij, hi⟩
    · exact h.sv o ho
    · exact h.sv x (List.mem_of_getElem? hi)
theorem WAt.setFin (h : WAt H B W) {e : Int} : WAt (upd H B.w (.dK (wF W.cells B.st B.lv e))) B { W with fin := e } := by
  refine ⟨upd_same, ?_, ?_, fun x hx => ?_, fun x hx => ?_, h.ks, h.nd, h.nv, h.sv⟩
  · rw [upd_ne h.s_w]; exact h.hs
  · rw [upd_ne h.w_lv.symm]; exact h.hl
  · rw [upd_ne (h.o_w hx)]; exact h.hd x hx
  · rw [upd_ne (h.v_w hx)]; exact h.hv x hx
theorem WAt.setStamps (h : WAt H B W) {ns : List Int} : WAt (upd H B.st (.lst (ns.map V.int))) B { W with stamps := ns } := by
  refine ⟨?_, upd_same, ?_, fun x hx => ?_, fun x hx => ?_, h.ks, h.nd, h.nv, h.sv⟩
  · rw [upd_ne h.s_w.symm]; exact h.hw
  · rw [upd_ne h.s_lv.symm]; exact h.hl
  · rw [upd_ne (h.o_s hx)]; exact h.hd x hx
  · rw [upd_ne (h.sv x hx)]; exact h.hv x hx
/-- the live dict is another one -/
theorem WAt.setLive (h : WAt H B W) {os : List One} (hd : ∀ o ∈ os, H o.o = some (.dK (oneF o.start o.v o.filled))) (hv : ∀ o ∈ os, H o.v = some (.lst o.vals)) (ks : (os.map (·.slot)).Nodup) (nd : (os.map (·.o)).Nodup) (nv : (os.map (·.v)).Nodup) (sv : ∀ o ∈ os, o.v ≠ B.st) (ol : ∀ o ∈ os, o.o ≠ B.lv) :
    WAt (upd H B.lv (.dK (liveF os))) B { W with os := os } := by
  refine ⟨?_, ?_, ?_, fun x hx => ?_, fun x hx => ?_, ks, nd, nv, sv⟩
  · rw [upd_ne h.w_lv]; exact h.hw
  · rw [upd_ne h.s_lv]; exact h.hs
  · rw [upd_same]; rfl
  · rw [upd_ne (ol x hx)]; exact hd x hx
  · rw [upd_ne (fun z => ?_)]
    · exact hv x hx
    · have q := h.hl
      rw [← z, hv x hx] at q
      cases q
end
/-! ### the two together -/
structure ObjOk (ar : List V) (o : One) (e : Ent) : Prop where
  live : e.live = true
  start : e.start = o.start
  size : e.size = o.vals.length
  filled : e.filled = o.filled
  all : o.filled = 0 ∨ o.filled = o.vals.length
  at_ : ∀ (k : Nat) v, o.vals[k]? = some v → ((k : Int) < o.filled → ar[(o.start + k).toNat]? = some v) ∧ (¬ (k : Int) < o.filled → v = .non)
structure Rel (W : WM) (M : Mem) : Prop where
  cells : W.cells = M.arena.length
  stamps : W.stamps = M.tab.map (·.stamp)
  fin : W.fin = M.fin
  snd : M.Sound
  os : ∀ o ∈ W.os, ∃ e, M.tab[o.slot]? = some e ∧ ObjOk M.arena o e
  liv : ∀ (i : Nat) e, M.tab[i]? = some e → e.live = true → ∃ o ∈ W.os, o.slot = i
structure Inv3 (K : PySem.W.Frag) (H : Hp) (A : MA) (B : WA) (M : Mem) (W : WM) : Prop where
  mem : MemAt K H A M
  wat : WAt H B W
  rel : Rel W M
  dj : ∀ b ∈ B.foot W.os, b ∉ A.foot
def q__law_cell (K : PySem.W.Frag) : V → V → Hp → VK → XK → Prop := fun v k H Q _ => ∃ (a : Addr) (ns : List Int) (i : Nat), v = .ref a ∧ k = .int i ∧ SqL K H a (ns.map V.int) ∧ ∀ z, Q (.int z) H
def q__law_rich (_ : PySem.W.Frag) : V → V → Hp → VK → XK → Prop := fun c k H Q _ => ∃ (i j : Int), c = .int i ∧ k = .int j ∧ ∀ z, Q (.int z) H
def q__law_reserved (K : PySem.W.Frag) : V → V → V → Hp → VK → XK → Prop := fun w m s H Q _ => ∃ (A : MA) (B : WA) (M : Mem) (W : WM) (n : Int), w = .ref B.w ∧ m = .ref A.m ∧ s = .int n ∧ Inv3 K H A B M W ∧ H B.lv = some (.dK (liveF W.os)) ∧ 1 ≤ n ∧ n ≤ 40 ∧
  ∀ H' M' W', Inv3 K H' A B M' W' → H' B.lv = some (.dK (liveF W'.os)) → Out (A.foot ++ B.foot W.os) H H' → (∀ b ∈ B.foot W'.os, b ∈ B.foot W.os ∨ H b = none) → Q (.bl true) H'
def q__law_filled (K : PySem.W.Frag) : V → V → V → Hp → VK → XK → Prop := fun w m s H Q _ => ∃ (A : MA) (B : WA) (M : Mem) (W : WM) (j : Nat) (o : One) (e : Ent), w = .ref B.w ∧ m = .ref A.m ∧ s = .int o.slot ∧ Inv3 K H A B M W ∧ W.os[j]? = some o ∧ M.tab[o.slot]? = some e ∧
  ∀ H' M', Inv3 K H' A B M' { W with os := W.os.set j { o with filled := o.vals.length } } → M'.tab = M.tab.set o.slot { e with filled := e.size } → M'.fin = M.fin → Out (A.foot ++ B.foot W.os) H H' → H' B.lv = H B.lv → Q (.bl true) H'
def q__law_right (K : PySem.W.Frag) : V → V → V → Hp → VK → XK → Prop := fun w m s H Q _ => ∃ (A : MA) (B : WA) (M : Mem) (W : WM) (o : One), w = .ref B.w ∧ m = .ref A.m ∧ s = .int o.slot ∧ Inv3 K H A B M W ∧ o ∈ W.os ∧ ∀ H', Ex H H' → Q (.bl true) H'
def q__law_moved (K : PySem.W.Frag) : V → V → V → V → V → Hp → VK → XK → Prop := fun w m s t p H Q _ => ∃ (A : MA) (B : WA) (M : Mem) (W : WM) (j : Nat) (o : One) (e : Ent) (z part : Int), w = .ref B.w ∧ m = .ref A.m ∧ s = .int o.slot ∧ t = .int z ∧ p = .int part ∧ Inv3 K H A B M W ∧ W.os[j]? = some o ∧ M.tab[o.slot]? = some e ∧
  e.filled = e.size ∧ 0 ≤ z ∧ z < e.start ∧ (∀ (i : Nat) x, i ≠ o.slot → M.tab[i]? = some x → x.live = true → x.start + x.size ≤ z ∨ e.start + e.size ≤ x.start) ∧
  ∀ H' M' vals, vals.length = o.vals.length → Inv3 K H' A B M' { W with os := W.os.set j { o with start := z, vals := vals } } → M'.tab = M.tab.set o.slot { e with start := z } → M'.fin = M.fin → Out (A.foot ++ B.foot W.os) H H' → H' B.lv = H B.lv → Q (.bl true) H'
def q_law (K : PySem.W.Frag) : V → Hp → VK → XK → Prop := fun v H Q _ => ∃ (a : Addr) (ns : List Int), v = .ref a ∧ SqL K H a (ns.map V.int) ∧ ∀ H', Q (.bl true) H'
end G

namespace G
open PySem L2 U
@[simp] theorem len_wF (c : Int) (st lv : Addr) (e : Int) : (wF c st lv e).length = 4 := rfl
@[simp] theorem vl_wF_cells (c : Int) (st lv : Addr) (e : Int) : valV (wF c st lv e) (Sum.inr ("cells" : Str)) = some (.int c) := by kernel_rfl
@[simp] theorem vl_wF_stamps (c : Int) (st lv : Addr) (e : Int) : valV (wF c st lv e) (Sum.inr ("stamps" : Str)) = some (.ref st) := by kernel_rfl
@[simp] theorem vl_wF_live (c : Int) (st lv : Addr) (e : Int) : valV (wF c st lv e) (Sum.inr ("live" : Str)) = some (.ref lv) := by kernel_rfl
@[simp] theorem vl_wF_end (c : Int) (st lv : Addr) (e : Int) : valV (wF c st lv e) (Sum.inr ("end" : Str)) = some (.int e) := by kernel_rfl
@[simp] theorem pk_wF_end (c : Int) (st lv : Addr) (e : Int) (z : Int) : putK (wF c st lv e) (Sum.inr ("end" : Str)) (.int z) = wF c st lv z := by kernel_rfl
@[simp] theorem len_oneF (s : Int) (v : Addr) (f : Int) : (oneF s v f).length = 3 := rfl
@[simp] theorem vl_oneF_start (s : Int) (v : Addr) (f : Int) : valV (oneF s v f) (Sum.inr ("start" : Str)) = some (.int s) := by kernel_rfl
@[simp] theorem pk_oneF_start (s : Int) (v : Addr) (f : Int) (z : Int) : putK (oneF s v f) (Sum.inr ("start" : Str)) (.int z) = oneF z v f := by kernel_rfl
@[simp] theorem vl_oneF_values (s : Int) (v : Addr) (f : Int) : valV (oneF s v f) (Sum.inr ("values" : Str)) = some (.ref v) := by kernel_rfl
@[simp] theorem vl_oneF_filled (s : Int) (v : Addr) (f : Int) : valV (oneF s v f) (Sum.inr ("filled" : Str)) = some (.int f) := by kernel_rfl
@[simp] theorem pk_oneF_filled (s : Int) (v : Addr) (f : Int) (z : Int) : putK (oneF s v f) (Sum.inr ("filled" : Str)) (.int z) = oneF s v z := by kernel_rfl
end G

namespace G
open PySem L2
def sp__law_cell (K : PySem.W.Frag) : Sp := U.S2 (q__law_cell K)
def sp__law_rich (K : PySem.W.Frag) : Sp := U.S2 (q__law_rich K)
def sp__law_reserved (K : PySem.W.Frag) : Sp := U.S3 (q__law_reserved K)
def sp__law_filled (K : PySem.W.Frag) : Sp := U.S3 (q__law_filled K)
def sp__law_right (K : PySem.W.Frag) : Sp := U.S3 (q__law_right K)
def sp__law_moved (K : PySem.W.Frag) : Sp := U.S5 (q__law_moved K)
def t__law_cell (K : PySem.W.Frag) : TS :=
  (tSeq (tIfS (tTest (tOp (U.uLt K) (tVar 1) (tCB (rLen K) (tCons (tVar 0) tNil)))) (tRet (tCB U.uInt (tCons (tOp (rIxL K) (tVar 0) (tVar 1)) tNil))) tNext)
  (tRet (tC (.int 0))))
def t__law_rich (K : PySem.W.Frag) : TS :=
  (tSeq (tIfS (tTest (tOp U.uGe (tVar 0) (tOp U.uPow (tC (.int 10)) (tC (.int 18))))) (tRet (tCB U.uInt (tCons (tVar 0) tNil))) tNext)
  (tSeq (tAsg (tOp U.uMod (tCB U.uInt (tCons (tOp (U.uAdd K) (tOp (U.uAdd K) (tOp (U.uMul K) (tVar 0) (tC (.int 48271))) (tOp (U.uMul K) (tVar 1) (tC (.int 69621)))) (tC (.int 11))) tNil)) (tC (.int 2147483647))) (gName 2))
  (tRet (tOp (U.uAdd K) (tOp (U.uMul K) (tVar 2) (tC (.int 2147483629))) (tOp U.uMod (tCB U.uInt (tCons (tOp (U.uAdd K) (tOp (U.uMul K) (tVar 2) (tC (.int 16807))) (tVar 0)) tNil)) (tC (.int 2147483629)))))))
def t__law_reserved (K : PySem.W.Frag) : TS :=
  (tSeq (tAsg (tAndV (tOp U.uLe (tOp (U.uAdd K) (tOp (U.uIx K) (tVar 0) (tC (.str "end"))) (tVar 2)) (tOp (U.uIx K) (tVar 0) (tC (.str "cells")))) (tOp (U.uLt K) (tCB (U.uLen K) (tCons (tOp (U.uIx K) (tVar 0) (tC (.str "live"))) tNil)) (tCB (U.uLen K) (tCons (tOp (U.uIx K) (tVar 0) (tC (.str "stamps"))) tNil)))) (gName 3))
  (tSeq (tIfS (tTest (tOp (U.uNe K) (U.uMeth (He.ga K "Memory") "fits" (sp_Memory_fits K) E0 (tVar 1) (tCons (tVar 2) tNil)) (tVar 3))) (tRet (tC (.bl false))) tNext)
  (tSeq (U.tTryO K (.ref (He.ga K "NoRoom")) (fun W => (tAsg (U.uMethS (He.ga K "Memory") "reserve" (sp_Memory_reserve K) (WE W) (tVar 1) (tCons (tVar 2) tNil)) (gName 4))) (fun _ _ _ => (tRet (tNotV (tVar 3)))))
  (tSeq (tAsg (tCB (U.uMin K) (tCons (tLc (iRng1 (tCons (tCB (U.uLen K) (tCons (tOp (U.uIx K) (tVar 0) (tC (.str "stamps"))) tNil)) tNil)) (gName 6) (tTest (tOp (U.uNotIn K) (tVar 6) (tOp (U.uIx K) (tVar 0) (tC (.str "live"))))) (tVar 6) [6]) tNil)) (gName 5))
  (tSeq (tIfS (tOr (tNot (U.tTru K (tVar 3))) (tTest (tOp (U.uNe K) (tVar 4) (tTup (tCons (tVar 5) (tCons (tOp (U.uIx K) (tOp (U.uIx K) (tVar 0) (tC (.str "stamps"))) (tVar 5)) tNil)))))) (tRet (tC (.bl false))) tNext)
  (tSeq (tAsg (tDisp [((tC (.str "start")), (tOp (U.uIx K) (tVar 0) (tC (.str "end")))), ((tC (.str "values")), (tOp (U.uMul K) (tLst (tCons (tC .non) tNil)) (tVar 2))), ((tC (.str "filled")), (tC (.int 0)))]) (gSub (tOp (U.uIx K) (tVar 0) (tC (.str "live"))) (tVar 5) U.uSet))
  (tSeq (tAsg (tOp (U.uAdd K) (tOp (U.uIx K) (tVar 0) (tC (.str "end"))) (tVar 2)) (gSub (tVar 0) (tC (.str "end")) U.uSet))
  (tRet (tAndV (tOp (U.uEq K) (U.uMeth (He.ga K "Memory") "end" (sp_Memory_end K) E0 (tVar 1) tNil) (tOp (U.uIx K) (tVar 0) (tC (.str "end")))) (tOp (U.uEq K) (U.uMeth (He.ga K "Memory") "live" (sp_Memory_live K) E0 (tVar 1) tNil) (tCB (U.uLen K) (tCons (tOp (U.uIx K) (tVar 0) (tC (.str "live"))) tNil))))))))))))
def t__law_filled (K : PySem.W.Frag) : TS :=
  (tSeq (tAsg (tOp (U.uIx K) (tOp (U.uIx K) (tVar 0) (tC (.str "live"))) (tVar 2)) (gName 3))
  (tSeq (tAsg (tTup (tCons (tVar 2) (tCons (tOp (U.uIx K) (tOp (U.uIx K) (tVar 0) (tC (.str "stamps"))) (tVar 2)) tNil))) (gName 4))
  (tSeq (tFor (iRng2 (tCons (tOp (U.uIx K) (tVar 3) (tC (.str "filled"))) (tCons (tCB (U.uLen K) (tCons (tOp (U.uIx K) (tVar 3) (tC (.str "values"))) tNil)) tNil))) (gName 5) (tIfS (tTest (tOp (U.uNe K) (U.uMeth (He.ga K "Memory") "fill" (sp_Memory_fill K) E0 (tVar 1) (tCons (tVar 4) tNil)) (tOp (U.uEq K) (tOp (U.uAdd K) (tVar 5) (tC (.int 1))) (tCB (U.uLen K) (tCons (tOp (U.uIx K) (tVar 3) (tC (.str "values"))) tNil))))) (tRet (tC (.bl false))) tNext))
  (tSeq (tAsg (tCB (U.uLen K) (tCons (tOp (U.uIx K) (tVar 3) (tC (.str "values"))) tNil)) (gSub (tVar 3) (tC (.str "filled")) U.uSet))
  (tRet (tC (.bl true)))))))
def t__law_right (K : PySem.W.Frag) : TS :=
  (tSeq (tAsg (tOp (U.uIx K) (tOp (U.uIx K) (tVar 0) (tC (.str "live"))) (tVar 2)) (gName 3))
  (tSeq (tAsg (tTup (tCons (tVar 2) (tCons (tOp (U.uIx K) (tOp (U.uIx K) (tVar 0) (tC (.str "stamps"))) (tVar 2)) tNil))) (gName 4))
  (tSeq (tIfS (tOr (tTest (tOp (U.uNe K) (U.uMeth (He.ga K "Memory") "size" (sp_Memory_size K) E0 (tVar 1) (tCons (tVar 4) tNil)) (tCB (U.uLen K) (tCons (tOp (U.uIx K) (tVar 3) (tC (.str "values"))) tNil)))) (tOr (tTest (tOp (U.uNe K) (U.uMeth (He.ga K "Memory") "start" (sp_Memory_start K) E0 (tVar 1) (tCons (tVar 2) tNil)) (tOp (U.uIx K) (tVar 3) (tC (.str "start"))))) (tTest (tOp (U.uNe K) (U.uMeth (He.ga K "Memory") "handle_at" (sp_Memory_handle_at K) E0 (tVar 1) (tCons (tVar 2) tNil)) (tVar 4))))) (tRet (tC (.bl false))) tNext)
  (tSeq (tFor (iRng1 (tCons (tCB (U.uLen K) (tCons (tOp (U.uIx K) (tVar 3) (tC (.str "values"))) tNil)) tNil)) (gName 5) (tIfS (tOr (tTest (tOp (U.uNe K) (U.uMeth (He.ga K "Memory") "read" (sp_Memory_read K) E0 (tVar 1) (tCons (tVar 4) (tCons (tVar 5) tNil))) (tOp (U.uIx K) (tOp (U.uIx K) (tVar 3) (tC (.str "values"))) (tVar 5)))) (tTest (tOp (U.uNe K) (U.uMeth (He.ga K "Memory") "place" (sp_Memory_place K) E0 (tVar 1) (tCons (tVar 4) (tCons (tVar 5) tNil))) (tOp (U.uAdd K) (tOp (U.uIx K) (tVar 3) (tC (.str "start"))) (tVar 5))))) (tRet (tC (.bl false))) tNext))
  (tRet (tC (.bl true)))))))
def t__law_moved (K : PySem.W.Frag) : TS :=
  (tSeq (tAsg (tOp (U.uIx K) (tOp (U.uIx K) (tVar 0) (tC (.str "live"))) (tVar 2)) (gName 5))
  (tSeq (tAsg (tTup (tCons (tVar 2) (tCons (tOp (U.uIx K) (tOp (U.uIx K) (tVar 0) (tC (.str "stamps"))) (tVar 2)) tNil))) (gName 6))
  (tSeq (tDrop (U.uMeth (He.ga K "Memory") "begin_move" (sp_Memory_begin_move K) E0 (tVar 1) (tCons (tVar 2) (tCons (tVar 3) tNil))))
  (tSeq (tFor (iRng1 (tCons (tCB (U.uLen K) (tCons (tOp (U.uIx K) (tVar 5) (tC (.str "values"))) tNil)) tNil)) (gName 7) (tSeq (tIfS (tTest (tOp (U.uNe K) (U.uMeth (He.ga K "Memory") "copy_cell" (sp_Memory_copy_cell K) E0 (tVar 1) (tCons (tVar 2) tNil)) (tOp (U.uEq K) (tOp (U.uAdd K) (tVar 7) (tC (.int 1))) (tCB (U.uLen K) (tCons (tOp (U.uIx K) (tVar 5) (tC (.str "values"))) tNil))))) (tRet (tC (.bl false))) tNext)
  (tSeq (tAsg (tOp U.uMod (tOp U.uFdiv (tVar 4) (tOp (U.uAdd K) (tC (.int 3)) (tVar 7))) (tCB (U.uLen K) (tCons (tOp (U.uIx K) (tVar 5) (tC (.str "values"))) tNil))) (gName 8))
  (tSeq (tIfS (tOr (tTest (tOp (U.uNe K) (U.uMeth (He.ga K "Memory") "write" (sp_Memory_write K) E0 (tVar 1) (tCons (tVar 6) (tCons (tVar 8) (tCons (tVar 7) tNil)))) (tOp (U.uIx K) (tOp (U.uIx K) (tVar 5) (tC (.str "values"))) (tVar 8)))) (tTest (tOp (U.uNe K) (U.uMeth (He.ga K "Memory") "place" (sp_Memory_place K) E0 (tVar 1) (tCons (tVar 6) (tCons (tVar 8) tNil))) (tOp (U.uAdd K) (tOp (U.uIx K) (tLst (tCons (tOp (U.uIx K) (tVar 5) (tC (.str "start"))) (tCons (tVar 3) tNil))) (tCB U.uInt (tCons (tOp U.uLe (tVar 8) (tVar 7)) tNil))) (tVar 8))))) (tRet (tC (.bl false))) tNext)
  (tAsg (tVar 7) (gSub (tOp (U.uIx K) (tVar 5) (tC (.str "values"))) (tVar 8) U.uSet))))))
  (tSeq (tDrop (U.uMeth (He.ga K "Memory") "turn" (sp_Memory_turn K) E0 (tVar 1) (tCons (tVar 2) tNil)))
  (tSeq (tAsg (tVar 3) (gSub (tVar 5) (tC (.str "start")) U.uSet))
  (tRet (tC (.bl true)))))))))
end G

namespace G
open PySem L2 U
section
variable {K : PySem.W.Frag} [SitK K] {H : Hp} {Q : VK} {E : XK}
theorem pure__law_cell {a b : V} (h : q__law_cell K a b H Q E) : t__law_cell K { nx := fun _ H1 => Q .non H1, rt := Q } [some a, some b] H := by
  unfold t__law_cell
  obtain ⟨a, ns, i, rfl, rfl, hs, q⟩ := h
  simp
  refine ⟨.ref a, ns.length, rfl, .inl ⟨_, hs, by simp⟩, ?_⟩
  by_cases hi : i < ns.length
  · refine .inr ⟨by simp; omega, a, ns.map V.int, i, .int ns[i], rfl, rfl, hs, by simp [hi], ?_⟩
    simp [q]
  · exact .inl ⟨by simp; omega, q _⟩
theorem pure__law_rich {a b : V} (h : q__law_rich K a b H Q E) : t__law_rich K { nx := fun _ H1 => Q .non H1, rt := Q } [some a, some b, none] H := by
  unfold t__law_rich
  obtain ⟨i, j, rfl, rfl, q⟩ := h
  simp
  refine ⟨⟨by decide, by decide, by decide⟩, ?_⟩
  by_cases h : i < 1000000000000000000
  · exact .inl ⟨h, .inr (by decide), .inr (by decide), .inr (by decide), .inr (by decide), q _⟩
  · exact .inr ⟨by omega, q _⟩
/-- two pairs of the same ints -/
theorem pair_ne {H : Hp} {p t : Addr} {i j : Int} {B : V → Hp → Prop} (hp : H p = some (.tup [.int i, .int j])) (ht : H t = some (.tup [.int i, .int j])) (q : B (.bl false) H) : uNe K (.ref p) (.ref t) H B := by
  have d : ∀ {a : Addr}, H a = some (.tup [.int i, .int j]) → Dp K H (.ref a) (.tuple [.int i, .int j]) := fun h => .tup (.inl (.inl h)) (.cons (.int _) (.cons (.int _) .nil))
  refine ⟨_, _, d hp, d ht, ?_, ?_, ?_⟩
  · simp [SeqAt.shaped, PyData.canLay0, PyData.canLayAll0, PyData.depth, PyData.depthAll]
  · simp [SeqAt.shaped, PyData.canLay0, PyData.canLayAll0, PyData.depth, PyData.depthAll]
  · simp [PyData.eqv, PyData.eqvAll]
    exact q
theorem val_ne {H : Hp} {v : V} {B : V → Hp → Prop} (h : v = .non ∨ ∃ i, v = .int i) (q : B (.bl false) H) : uNe K v v H B := by
  rcases h with rfl | ⟨i, rfl⟩
  · exact q
  · simp [q]
theorem pure__law_right {a b c : V} (h : q__law_right K a b c H Q E) : t__law_right K { nx := fun _ H1 => Q .non H1, rt := Q } [some a, some b, some c, none, none, none] H := by
  unfold t__law_right
  obtain ⟨A, B, M, W, o, rfl, rfl, rfl, I, ho, q⟩ := h
  obtain ⟨e, he, oo⟩ := I.rel.os o ho
  obtain ⟨dm, hm⟩ := I.mem.hm
  have hst : W.stamps[o.slot]? = some e.stamp := by rw [I.rel.stamps, List.getElem?_map, he]; rfl
  obtain ⟨hi, hst2⟩ := List.getElem?_eq_some_iff.mp hst
  have eo := I.rel.snd.ok e (List.mem_of_getElem? he)
  obtain ⟨x, dx, hax, hx⟩ := I.mem.enta he
  simp [I.wat.hw, I.wat.hl, valV_live I.wat.ks ho, I.wat.hs, hst, hi, hst2]
  refine ⟨by decide, fun p hp => ?_⟩
  have ne : A.m ≠ p := ne_of_none hm hp
  rw [if_neg ne]
  have hp1 : upd H p (.tup [.int o.slot, .int e.stamp]) p = some (.tup [.int o.slot, .int e.stamp]) := upd_same
  have e1 : Ex H (upd H p (.tup [.int o.slot, .int e.stamp])) := Ex.up hp
  generalize upd H p (.tup [.int o.slot, .int e.stamp]) = H1 at hp1 e1 ⊢
  have w1 := I.wat.ex e1
  have m1 := I.mem.ex e1
  have hd1 : Hdl K H1 A M p o.slot x e := ⟨m1, by rw [hp1]; rfl, eo.stamp, hax, he, oo.live⟩
  simp [hm, sp_Memory_size]
  refine ⟨A, M, p, o.slot, x, e, rfl, rfl, hd1, ?_⟩
  simp [w1.hd o ho, w1.hv o ho, oo.size, e1.at hm, sp_Memory_start]
  refine ⟨A, M, o.slot, x, e, rfl, rfl, ⟨m1, hax, he, oo.live⟩, ?_⟩
  simp [w1.hd o ho, oo.start, e1.at hm, sp_Memory_handle_at]
  refine ⟨A, M, o.slot, e, rfl, rfl, m1, he, oo.live, fun t ht => ?_⟩
  have ntp : p ≠ t := ne_of_none hp1 ht
  refine pair_ne (i := o.slot) (j := e.stamp) upd_same (by rw [upd_ne ntp]; exact hp1) (.inl ⟨rfl, ?_⟩)
  have e2 : Ex H1 (upd H1 t (.tup [.int o.slot, .int e.stamp])) := Ex.up ht
  generalize upd H1 t (.tup [.int o.slot, .int e.stamp]) = H2 at e2 ⊢
  have w2 := w1.ex e2
  have m2 := m1.ex e2
  have hd2 : Hdl K H2 A M p o.slot x e := ⟨m2, by rw [e2.at hp1]; rfl, eo.stamp, hax, he, oo.live⟩
  simp [w2.hd o ho, w2.hv o ho]
  have ls := I.rel.snd.span e (List.mem_of_getElem? he) oo.live
  have la := I.rel.snd.f1
  have la2 := I.rel.snd.a2
  have osz := oo.size
  have nto := eo.to
  have es := eo.start
  have spot : ∀ k : Int, e.spot k = o.start + k := fun k => by
    unfold Ent.spot
    rw [nto, ← oo.start]
  refine kRng1_for ⟨by omega, by omega⟩ (fun i σ' H' => (∃ s5, σ' = [some (.ref B.w), some (.ref A.m), some (.int o.slot), some (.ref o.o), some (.ref p), s5]) ∧ Ex H H' ∧ H' p = some (.tup [.int o.slot, .int e.stamp])) ⟨⟨_, rfl⟩, e1.trans e2, e2.at hp1⟩ ?_ ?_
  · rintro k σ' H' hk ⟨⟨s5, rfl⟩, e', hp3⟩
    have w3 := I.wat.ex e'
    have m3 := I.mem.ex e'
    have hd3 : Hdl K H' A M p o.slot x e := ⟨m3, by rw [hp3]; rfl, eo.stamp, hax, he, oo.live⟩
    have hk2 : k < o.vals.length := by omega
    obtain ⟨v, hv⟩ : ∃ v, o.vals[k]? = some v := ⟨_, List.getElem?_eq_getElem hk2⟩
    obtain ⟨_, hv2⟩ := List.getElem?_eq_some_iff.mp hv
    obtain ⟨at1, at2⟩ := oo.at_ k v hv
    have vk : v = .non ∨ ∃ i, v = .int i := by
      by_cases z : (k : Int) < o.filled
      · exact I.rel.snd.vals v (List.mem_of_getElem? (at1 z))
      · exact .inl (at2 z)
    simp [e'.at hm, sp_Memory_read]
    refine ⟨A, M, p, o.slot, x, e, k, v, rfl, rfl, rfl, hd3, by omega, by omega, fun z => ?_, fun z => at2 (by rw [← oo.filled]; exact z), ?_⟩
    · rw [spot]
      exact ⟨by rw [← oo.start]; omega, at1 (by rw [← oo.filled]; exact z)⟩
    · simp [w3.hd o ho, w3.hv o ho, hk2, hv2]
      refine val_ne vk (.inl ⟨rfl, ?_⟩)
      simp [e'.at hm, sp_Memory_place]
      refine ⟨A, M, p, o.slot, x, e, k, rfl, rfl, rfl, hd3, by omega, by omega, ?_⟩
      simp [w3.hd o ho, spot]
      exact ⟨e', hp3⟩
  · rintro σ' H' ⟨⟨_, rfl⟩, e', _⟩
    simp
    exact q H' e'
end
end G

namespace G
open PySem L2 U
section
variable {K : PySem.W.Frag} {H : Hp} {Q : VK} {E : XK} {A : MA} {B : WA} {M : Mem} {W : WM} {j : Nat} {o o' : One} {e e' : Ent} {ar : List V}
theorem Rel.one (R : Rel W M) (hj : W.os[j]? = some o) (he : M.tab[o.slot]? = some e) : ObjOk M.arena o e := by
  obtain ⟨x, hx, oo⟩ := R.os o (List.mem_of_getElem? hj)
  rw [he] at hx
  cases hx
  exact oo
/-- one object and its cells change -/
theorem Rel.change (R : Rel W M) (ks : (W.os.map (·.slot)).Nodup) (hj : W.os[j]? = some o) (he : M.tab[o.slot]? = some e) (hl : ar.length = M.arena.length) (hv : ∀ v ∈ ar, v = .non ∨ ∃ i, v = .int i) (h1 : e'.Ok) (h2 : 1 ≤ e'.size ∧ e'.filled ≤ e'.size ∧ e'.start + e'.size ≤ M.fin) (hs : e'.stamp = e.stamp) (ho : o'.slot = o.slot)
    (oo : ObjOk ar o' e') (dis : ∀ (i : Nat) x, i ≠ o.slot → M.tab[i]? = some x → x.live = true → e'.apart x)
    (keep : ∀ (i : Nat) x (q : Nat), i ≠ o.slot → M.tab[i]? = some x → x.live = true → x.start ≤ q → (q : Int) < x.start + x.size → ar[q]? = M.arena[q]?) :
    Rel { W with os := W.os.set j o' } ⟨ar, M.tab.set o.slot e', M.fin⟩ := by
  have hi := (List.getElem?_eq_some_iff.mp he).1
  have hjl := (List.getElem?_eq_some_iff.mp hj).1
  have set_at : ∀ {i : Nat} {x : Ent}, (M.tab.set o.slot e')[i]? = some x → (i = o.slot ∧ x = e') ∨ (i ≠ o.slot ∧ M.tab[i]? = some x) := by
    intro i x hx
    by_cases z : i = o.slot
    · subst z
      rw [List.getElem?_set_self hi] at hx
      cases hx
      exact .inl ⟨rfl, rfl⟩
    · rw [List.getElem?_set_ne (Ne.symm z)] at hx
      exact .inr ⟨z, hx⟩
  have set_in : ∀ {x : Ent}, x ∈ M.tab.set o.slot e' → x = e' ∨ x ∈ M.tab := by
    intro x hx
    obtain ⟨i, hx⟩ := List.getElem?_of_mem hx
    rcases set_at hx with ⟨_, z⟩ | ⟨_, z⟩
    · exact .inl z
    · exact .inr (List.mem_of_getElem? z)
  refine ⟨?_, ?_, R.fin, ⟨?_, ?_, ?_, ?_, R.snd.f0, ?_, hv, fun x hx => ?_, fun x hx hlv => ?_, fun a b x y hab ha hb hx hy => ?_⟩, fun x hx => ?_, fun i x hx hlv => ?_⟩
  · rw [R.cells, hl]
  · show W.stamps = _
    rw [R.stamps, map_set_same he hs]
  · show 1 ≤ ar.length
    rw [hl]; exact R.snd.a1
  · show ar.length ≤ 10000
    rw [hl]; exact R.snd.a2
  · show 1 ≤ (M.tab.set o.slot e').length
    rw [List.length_set]; exact R.snd.t1
  · show (M.tab.set o.slot e').length ≤ 1000
    rw [List.length_set]; exact R.snd.t2
  · show M.fin ≤ ar.length
    rw [hl]; exact R.snd.f1
  · rcases set_in hx with rfl | hx
    · exact h1
    · exact R.snd.ok x hx
  · rcases set_in hx with rfl | hx
    · exact h2
    · exact R.snd.span x hx hlv
  · rcases set_at ha with ⟨rfl, rfl⟩ | ⟨ha1, ha2⟩
    · rcases set_at hb with ⟨rfl, rfl⟩ | ⟨hb1, hb2⟩
      · exact absurd rfl hab
      · exact dis b y hb1 hb2 hy
    · rcases set_at hb with ⟨rfl, rfl⟩ | ⟨hb1, hb2⟩
      · exact (dis a x ha1 ha2 hx).symm
      · exact R.snd.dis a b x y hab ha2 hb2 hx hy
  · rcases set_mem hx with ⟨rfl, _⟩ | ⟨i, hij, hi2⟩
    · exact ⟨e', by rw [ho]; exact List.getElem?_set_self hi, oo⟩
    · have hx2 := List.mem_of_getElem? hi2
      obtain ⟨f, hf, of⟩ := R.os x hx2
      have ne : x.slot ≠ o.slot := fun z => hij (map_ix (f := fun o : One => o.slot) ks hi2 hj z)
      refine ⟨f, by rw [List.getElem?_set_ne ne.symm]; exact hf, of.live, of.start, of.size, of.filled, of.all, fun k v hk => ?_⟩
      obtain ⟨a1, a2⟩ := of.at_ k v hk
      refine ⟨fun z => ?_, a2⟩
      have okf := R.snd.ok f (List.mem_of_getElem? hf)
      have hkl := (List.getElem?_eq_some_iff.mp hk).1
      have s0 := okf.start
      have s1 := of.start
      have s2 := of.size
      rw [keep x.slot f _ ne hf of.live (by omega) (by omega)]
      exact a1 z
  · rcases set_at hx with ⟨rfl, rfl⟩ | ⟨h3, h4⟩
    · exact ⟨o', List.mem_iff_getElem?.mpr ⟨j, List.getElem?_set_self hjl⟩, ho⟩
    · obtain ⟨x2, hx2, e2⟩ := R.liv i x h4 hlv
      obtain ⟨m, hm⟩ := List.getElem?_of_mem hx2
      have : m ≠ j := fun z => by
        rw [z, hj] at hm
        cases hm
        exact h3 e2.symm
      exact ⟨x2, List.mem_iff_getElem?.mpr ⟨m, by rw [List.getElem?_set_ne (Ne.symm this)]; exact hm⟩, e2⟩
theorem arena_set {ar : List V} {p : Nat} {v : V} (hv : ∀ v ∈ ar, v = .non ∨ ∃ i, v = .int i) (h : v = .non ∨ ∃ i, v = .int i) : ∀ x ∈ ar.set p v, x = .non ∨ ∃ i, x = .int i := by
  intro x hx
  rcases set_mem hx with ⟨rfl, _⟩ | ⟨i, _, hi⟩
  · exact h
  · exact hv x (List.mem_of_getElem? hi)
theorem foot_set {B : WA} {os : List One} (hj : os[j]? = some o) (h1 : o'.o = o.o) (h2 : o'.v = o.v) {b : Addr} (hb : b ∈ B.foot (os.set j o')) : b ∈ B.foot os := by
  simp only [WA.foot, List.mem_cons, List.mem_flatMap] at hb ⊢
  rcases hb with hb | hb | hb | ⟨x, hx, hb⟩
  · exact .inl hb
  · exact .inr (.inl hb)
  · exact .inr (.inr (.inl hb))
  · refine .inr (.inr (.inr ?_))
    rcases set_mem hx with ⟨rfl, _⟩ | ⟨i, _, hi⟩
    · exact ⟨o, List.mem_of_getElem? hj, by rw [h1, h2] at hb; exact hb⟩
    · exact ⟨x, List.mem_of_getElem? hi, hb⟩
variable [SitK K]
theorem pure__law_filled {a b c : V} (h : q__law_filled K a b c H Q E) : t__law_filled K { nx := fun _ H1 => Q .non H1, rt := Q } [some a, some b, some c, none, none, none] H := by
  unfold t__law_filled
  obtain ⟨A, B, M, W, j, o, e, rfl, rfl, rfl, I, hj, he, q⟩ := h
  have ho := List.mem_of_getElem? hj
  have oo := I.rel.one hj he
  obtain ⟨dm, hm⟩ := I.mem.hm
  have hst : W.stamps[o.slot]? = some e.stamp := by rw [I.rel.stamps, List.getElem?_map, he]; rfl
  obtain ⟨hi, hst2⟩ := List.getElem?_eq_some_iff.mp hst
  have hti := (List.getElem?_eq_some_iff.mp he).1
  have eo := I.rel.snd.ok e (List.mem_of_getElem? he)
  obtain ⟨x, dx, hax, hx⟩ := I.mem.enta he
  simp [I.wat.hw, I.wat.hl, valV_live I.wat.ks ho, I.wat.hs, hst, hi, hst2]
  refine ⟨by decide, fun p hp => ?_⟩
  have nop : o.o ≠ p := ne_of_none (I.wat.hd o ho) hp
  rw [if_neg nop]
  have hp1 : upd H p (.tup [.int o.slot, .int e.stamp]) p = some (.tup [.int o.slot, .int e.stamp]) := upd_same
  have e1 : Ex H (upd H p (.tup [.int o.slot, .int e.stamp])) := Ex.up hp
  generalize upd H p (.tup [.int o.slot, .int e.stamp]) = H1 at hp1 e1 ⊢
  have w1 := I.wat.ex e1
  have m1 := I.mem.ex e1
  have ls := I.rel.snd.span e (List.mem_of_getElem? he) oo.live
  have la := I.rel.snd.f1
  have la2 := I.rel.snd.a2
  have osz := oo.size
  have ofl := oo.filled
  have ost := oo.start
  have nto := eo.to
  have es := eo.start
  have ef := eo.filled
  have pf : p ∉ A.foot := fun m => by
    obtain ⟨u, hu⟩ : ∃ u, H p = some u := by
      have : p = A.m ∨ p = A.la ∨ p = A.lt ∨ p ∈ A.ea := by simpa [MA.foot] using m
      rcases this with z | z | z | z
      · exact ⟨_, z ▸ hm⟩
      · exact ⟨_, z ▸ I.mem.ha⟩
      · exact ⟨_, z ▸ I.mem.ht⟩
      · obtain ⟨i, hi⟩ := List.getElem?_of_mem z
        obtain ⟨_, _, _, h⟩ := I.mem.ent hi
        exact ⟨_, h⟩
    rw [hp] at hu; cases hu
  simp [I.wat.hd o ho, w1.hd o ho, w1.hv o ho]
  refine kRng2_for ⟨by omega, by omega, by omega, by omega⟩ (fun i σ' H' => (∃ s5, σ' = [some (.ref B.w), some (.ref A.m), some (.int o.slot), some (.ref o.o), some (.ref p), s5]) ∧ Out A.foot H H' ∧ H' p = some (.tup [.int o.slot, .int e.stamp]) ∧
      ∃ ar : List V, MemAt K H' A ⟨ar, M.tab.set o.slot { e with filled := o.filled + i }, M.fin⟩ ∧ ar.length = M.arena.length ∧ (∀ v ∈ ar, v = .non ∨ ∃ i, v = .int i) ∧ (∀ q : Nat, ((q : Int) < e.start ∨ e.start + e.size ≤ q) → ar[q]? = M.arena[q]?) ∧ ∀ (k : Nat) v, o.vals[k]? = some v → (k : Int) < o.filled + i → ar[(o.start + k).toNat]? = some v)
    ⟨⟨_, rfl⟩, e1.mono (by simp), hp1, M.arena, ?_, rfl, I.rel.snd.vals, fun _ _ => rfl, fun k v hk hkf => (oo.at_ k v hk).1 (by simpa using hkf)⟩ ?_ ?_
  · have z : M.tab.set o.slot { e with filled := o.filled + ((0 : Nat) : Int) } = M.tab := by
      have : ({ e with filled := o.filled + ((0 : Nat) : Int) } : Ent) = e := by
        rw [← ofl]
        simp
      rw [this]
      apply List.ext_getElem?
      intro i
      by_cases z : i = o.slot
      · subst z
        rw [List.getElem?_set_self hti, he]
      · rw [List.getElem?_set_ne (Ne.symm z)]
    rw [z]
    exact m1
  · rintro i σ' H' hlt ⟨⟨s5, rfl⟩, o1, hp3, ar, m3, al, av, ak, ac⟩
    have w3 := I.wat.out o1 (fun b hb => I.dj b hb)
    obtain ⟨dm3, hm3⟩ := m3.hm
    have hspot : ({ e with filled := o.filled + i } : Ent).spot (o.filled + i) = o.start + (o.filled + i) := by
      unfold Ent.spot
      rw [← ost]
      simp only [nto]
    have hd3 : Hdl K H' A ⟨ar, M.tab.set o.slot { e with filled := o.filled + i }, M.fin⟩ p o.slot x { e with filled := o.filled + i } := ⟨m3, by rw [hp3]; rfl, eo.stamp, hax, List.getElem?_set_self hti, oo.live⟩
    simp [hm3, sp_Memory_fill]
    refine ⟨A, _, p, o.slot, x, _, rfl, rfl, hd3, by simp; omega, by simp only [hspot]; omega, by simp only [hspot]; omega, fun H2 o2 m2 => ?_⟩
    simp only [hspot] at m2
    have w4 := w3.out o2 (fun b hb => I.dj b hb)
    simp [w4.hd o ho, w4.hv o ho]
    refine .inl ⟨by rw [osz], o1.trans o2, o2 p _ hp3 pf, ar.set (o.start + (o.filled + i)).toNat .non, ?_, by rw [List.length_set]; exact al, arena_set av (.inl rfl), fun q hq => ?_, fun k v hk hkl => ?_⟩
    · rw [List.set_set] at m2
      rw [show o.filled + ((i : Int) + 1) = o.filled + i + 1 by omega]
      exact m2
    · rw [List.getElem?_set_ne (by omega)]
      exact ak q hq
    · by_cases z : (k : Int) = o.filled + i
      · have v0 := (oo.at_ k v hk).2 (by omega)
        rw [v0, z, List.getElem?_set_self (by omega)]
      · rw [List.getElem?_set_ne (by omega)]
        exact ac k v hk (by omega)
  · rintro σ' H' ⟨⟨s5, rfl⟩, o1, hp3, ar, m3, al, av, ak, ac⟩
    have w3 := I.wat.out o1 (fun b hb => I.dj b hb)
    have hn : o.filled + (((o.vals.length : Int) - o.filled).toNat : Int) = o.vals.length := by omega
    rw [hn] at m3 ac
    simp [w3.hd o ho, w3.hv o ho]
    have oA : o.o ∉ A.foot := I.dj _ (I.wat.mo ho)
    have w4 := w3.setOne hj (s := o.start) (f := o.vals.length)
    have m4 : MemAt K (upd H' o.o (.dK (oneF o.start o.v o.vals.length))) A _ := m3.frame fun b u hb hu => by rw [upd_ne (fun z => oA (by rw [← z]; exact hb))]; exact hu
    refine ⟨by decide, q _ ⟨ar, M.tab.set o.slot { e with filled := o.vals.length }, M.fin⟩ ⟨m4, w4, ?_, ?_⟩ (by rw [osz]) rfl ?_ ?_⟩
    · refine I.rel.change I.wat.ks hj he al av ⟨eo.stamp, eo.size, eo.start, by simp, eo.done, eo.mark, eo.to⟩ ⟨ls.1, by simp; omega, ls.2.2⟩ rfl rfl ⟨oo.live, ost, osz, rfl, .inr rfl, fun k v hk => ⟨fun _ => ac k v hk ?_, fun z => ?_⟩⟩ (fun i y hi2 hy hlv => ?_) fun i y q hi2 hy hlv h1 h2 => ak q ?_
      · have t : k < o.vals.length := (List.getElem?_eq_some_iff.mp hk).1
        omega
      · have t : k < o.vals.length := (List.getElem?_eq_some_iff.mp hk).1
        exact absurd (show (k : Int) < (o.vals.length : Int) by omega) z
      · exact I.rel.snd.dis o.slot i e y (Ne.symm hi2) he hy oo.live hlv
      · have := I.rel.snd.dis o.slot i e y (Ne.symm hi2) he hy oo.live hlv
        unfold Ent.apart at this
        omega
    · intro b hb
      refine I.dj b ?_
      exact foot_set (o' := { o with filled := o.vals.length }) hj rfl rfl hb
    · refine Out.put (o1.mono (by simp; intro x hx; exact .inl hx)) ?_
      rw [List.mem_append]
      exact .inr (I.wat.mo ho)
    · rw [upd_ne (w3.o_lv ho).symm]
      obtain ⟨u, hu⟩ := rk_d I.wat.hl
      rw [hu]
      exact o1 _ _ hu (I.dj _ (by simp [WA.foot]))
end
end G

namespace G
open PySem L2 U
section
variable {K : PySem.W.Frag} {H : Hp} {Q : VK} {E : XK} {A : MA} {B : WA} {M : Mem} {W : WM} {j : Nat} {o o' : One} {e e' : Ent} {ar : List V}
theorem MemAt.alive (h : MemAt K H A M) {p : Addr} (m : p ∈ A.foot) : ∃ u, H p = some u := by
  obtain ⟨dm, hm⟩ := h.hm
  have : p = A.m ∨ p = A.la ∨ p = A.lt ∨ p ∈ A.ea := by simpa [MA.foot] using m
  rcases this with z | z | z | z
  · exact ⟨_, z ▸ hm⟩
  · exact ⟨_, z ▸ h.ha⟩
  · exact ⟨_, z ▸ h.ht⟩
  · obtain ⟨i, hi⟩ := List.getElem?_of_mem z
    obtain ⟨_, _, _, h⟩ := h.ent hi
    exact ⟨_, h⟩
theorem fresh_not {S : List Addr} {p : Addr} (hp : H p = none) (h : ∀ b ∈ S, ∃ u, H b = some u) : p ∉ S := fun m => by
  obtain ⟨u, hu⟩ := h p m
  rw [hp] at hu; cases hu
variable [SitK K]
theorem pure__law_moved {a b c d g : V} (h : q__law_moved K a b c d g H Q E) : t__law_moved K { nx := fun _ H1 => Q .non H1, rt := Q } [some a, some b, some c, some d, some g, none, none, none, none] H := by
  unfold t__law_moved
  obtain ⟨A, B, M, W, j, o, e, z, part, rfl, rfl, rfl, rfl, rfl, I, hj, he, hfs, hz0, hze, hoth, q⟩ := h
  have ho := List.mem_of_getElem? hj
  have hjl := (List.getElem?_eq_some_iff.mp hj).1
  have oo := I.rel.one hj he
  obtain ⟨dm, hm⟩ := I.mem.hm
  have hst : W.stamps[o.slot]? = some e.stamp := by rw [I.rel.stamps, List.getElem?_map, he]; rfl
  obtain ⟨hi, hst2⟩ := List.getElem?_eq_some_iff.mp hst
  have hti := (List.getElem?_eq_some_iff.mp he).1
  have eo := I.rel.snd.ok e (List.mem_of_getElem? he)
  obtain ⟨x, dx, hax, hx⟩ := I.mem.enta he
  have oA : o.o ∉ A.foot := I.dj _ (I.wat.mo ho)
  have vA : o.v ∉ A.foot := I.dj _ (I.wat.mv ho)
  simp [I.wat.hw, I.wat.hl, valV_live I.wat.ks ho, I.wat.hs, hst, hi, hst2]
  refine ⟨by decide, fun p hp => ?_⟩
  have nop : o.o ≠ p := ne_of_none (I.wat.hd o ho) hp
  have nmp : A.m ≠ p := ne_of_none hm hp
  rw [if_neg nmp]
  have hp1 : upd H p (.tup [.int o.slot, .int e.stamp]) p = some (.tup [.int o.slot, .int e.stamp]) := upd_same
  have e1 : Ex H (upd H p (.tup [.int o.slot, .int e.stamp])) := Ex.up hp
  have pA : p ∉ A.foot := fresh_not hp fun b hb => I.mem.alive hb
  have pB : p ∉ B.foot W.os := fresh_not hp fun b hb => I.wat.alive hb
  generalize upd H p (.tup [.int o.slot, .int e.stamp]) = H1 at hp1 e1 ⊢
  have w1 := I.wat.ex e1
  have m1 := I.mem.ex e1
  have ls := I.rel.snd.span e (List.mem_of_getElem? he) oo.live
  have la := I.rel.snd.f1
  have la2 := I.rel.snd.a2
  have osz := oo.size
  have ofl := oo.filled
  have ost := oo.start
  have nto := eo.to
  have es := eo.start
  simp [hm, sp_Memory_begin_move]
  have still : M.still := fun y hy _ => (I.rel.snd.ok y hy).to
  refine ⟨A, M, o.slot, x, e, z, rfl, rfl, rfl, ⟨m1, hax, he, oo.live⟩, still, hz0, hze, fun y hy hly hs => ?_, fun H2 o2 m2 => ?_⟩
  · obtain ⟨i, hi⟩ := List.getElem?_of_mem hy
    by_cases ei : i = o.slot
    · subst ei
      rw [he] at hi
      cases hi
      omega
    · rcases hoth i y ei hi hly with h | h
      · exact h
      · omega
  · have w2 := w1.out o2 (fun b hb => I.dj b hb)
    simp [w2.hd o ho, w2.hv o ho]
    refine kRng1_for ⟨by omega, by omega⟩ (fun i σ' H' => (∃ s7 s8, σ' = [some (.ref B.w), some (.ref A.m), some (.int o.slot), some (.int z), some (.int part), some (.ref o.o), some (.ref p), s7, s8]) ∧ Out (A.foot ++ B.foot W.os) H H' ∧ H' p = some (.tup [.int o.slot, .int e.stamp]) ∧ H' B.lv = H B.lv ∧
      ∃ (ar vs : List V), MemAt K H' A ⟨ar, M.tab.set o.slot { e with to := some z, done := i }, M.fin⟩ ∧ WAt H' B { W with os := W.os.set j { o with vals := vs } } ∧ vs.length = o.vals.length ∧ ar.length = M.arena.length ∧ (∀ v ∈ ar, v = .non ∨ ∃ i, v = .int i) ∧ (∀ q : Nat, ((q : Int) < z ∨ e.start + e.size ≤ q) → ar[q]? = M.arena[q]?) ∧
        ∀ (k : Nat) v, vs[k]? = some v → ar[(if k < i then z + k else e.start + k).toNat]? = some v)
      ⟨⟨_, _, rfl⟩, (e1.mono (by simp)).trans (o2.mono (by simp; intro x hx; exact .inl hx)), o2 p _ hp1 pA, ?_, M.arena, o.vals, ?_, ?_, rfl, rfl, I.rel.snd.vals, fun _ _ => rfl, fun k v hk => ?_⟩ ?_ ?_
    · obtain ⟨u, hu⟩ := rk_d I.wat.hl
      rw [hu]
      exact o2 _ _ (e1.at hu) (I.dj _ (by simp [WA.foot]))
    · simpa using m2
    · have : W.os.set j { o with vals := o.vals } = W.os := by
        apply List.ext_getElem?
        intro i
        by_cases z : i = j
        · subst z
          rw [List.getElem?_set_self hjl, hj]
        · rw [List.getElem?_set_ne (Ne.symm z)]
      rw [this]
      exact w2
    · rw [if_neg (by omega), ost]
      have t : k < o.vals.length := (List.getElem?_eq_some_iff.mp hk).1
      exact (oo.at_ k v hk).1 (by omega)
    · rintro i σ' H' hlt ⟨⟨s7, s8, rfl⟩, o1, hp3, hlv, ar, vs, m3, w3, vl, al, av, ak, ac⟩
      obtain ⟨dm3, hm3⟩ := m3.hm
      have hin : i < vs.length := by omega
      obtain ⟨v, hv⟩ : ∃ v, vs[i]? = some v := ⟨_, List.getElem?_eq_getElem hin⟩
      have acv := ac i v hv
      rw [if_neg (by omega)] at acv
      have hset : (M.tab.set o.slot { e with to := some z, done := (i : Int) })[o.slot]? = some { e with to := some z, done := (i : Int) } := List.getElem?_set_self hti
      have o1m : ({ o with vals := vs } : One) ∈ ({ W with os := W.os.set j { o with vals := vs } } : WM).os := List.mem_iff_getElem?.mpr ⟨j, List.getElem?_set_self hjl⟩
      have w3d : H' o.o = some (.dK (oneF o.start o.v o.filled)) := w3.hd { o with vals := vs } o1m
      have w3v : H' o.v = some (.lst vs) := w3.hv { o with vals := vs } o1m
      simp [hm3, sp_Memory_copy_cell]
      refine ⟨A, _, o.slot, x, _, z, v, rfl, rfl, ⟨m3, hax, hset, oo.live⟩, rfl, by simp; omega, by simp; omega, acv, by simp; omega, by simp; omega, fun H2 o2 m4 => ?_⟩
      have w4d : H2 o.o = _ := o2 _ _ w3d oA
      have w4v : H2 o.v = _ := o2 _ _ w3v vA
      simp only [List.set_set] at m4
      obtain ⟨dm4, hm4⟩ := m4.hm
      have dc : (decide ((i : Int) + 1 = e.size) = decide ((i : Int) + 1 = (vs.length : Int))) := by rw [osz, vl]
      simp [w4d, w4v, hm4, sp_Memory_write, sp_Memory_place]
      have t0 := Int.emod_nonneg (part / (3 + (i : Int))) (show (vs.length : Int) ≠ 0 by omega)
      have t1 := Int.emod_lt_of_pos (part / (3 + (i : Int))) (show (0 : Int) < vs.length by omega)
      generalize part / (3 + (i : Int)) % (vs.length : Int) = t at t0 t1 ⊢
      obtain ⟨tn, rfl⟩ := Int.eq_ofNat_of_zero_le t0
      have ht : tn < vs.length := by omega
      obtain ⟨v', hv'⟩ : ∃ v', vs[tn]? = some v' := ⟨_, List.getElem?_eq_getElem ht⟩
      obtain ⟨_, hv2⟩ := List.getElem?_eq_some_iff.mp hv'
      have al4 : (ar.set (z + (i : Int)).toNat v).length = M.arena.length := by rw [List.length_set]; exact al
      have av4 : ∀ u ∈ ar.set (z + (i : Int)).toNat v, u = .non ∨ ∃ i, u = .int i := arena_set av (av v (List.mem_of_getElem? acv))
      have ac4 : ∀ (k : Nat) u, vs[k]? = some u → (ar.set (z + (i : Int)).toNat v)[(if k < i + 1 then z + k else e.start + k).toNat]? = some u := by
        intro k u hk
        have hkl := (List.getElem?_eq_some_iff.mp hk).1
        have := ac k u hk
        by_cases h1 : k < i
        · rw [if_pos h1] at this
          rw [if_pos (by omega), List.getElem?_set_ne (by omega)]
          exact this
        · by_cases h2 : k = i
          · subst h2
            rw [hv] at hk
            cases hk
            rw [if_pos (by omega), List.getElem?_set_self (by omega)]
          · rw [if_neg h1] at this
            rw [if_neg (by omega), List.getElem?_set_ne (by omega)]
            exact this
      have ak4 : ∀ q : Nat, ((q : Int) < z ∨ e.start + e.size ≤ q) → (ar.set (z + (i : Int)).toNat v)[q]? = M.arena[q]? := by
        intro q hq
        rw [List.getElem?_set_ne (by omega)]
        exact ak q hq
      generalize ar.set (z + (i : Int)).toNat v = ar4 at m4 al4 av4 ac4 ak4
      have spot4 : ({ e with to := some z, done := (i : Int) + 1 } : Ent).spot tn = if tn < i + 1 then z + tn else e.start + tn := by
        unfold Ent.spot
        simp only
        by_cases h : tn < i + 1
        · rw [if_pos h, if_pos (by omega)]
        · rw [if_neg h, if_neg (by omega)]
      have hset4 : (M.tab.set o.slot { e with to := some z, done := (i : Int) + 1 })[o.slot]? = some { e with to := some z, done := (i : Int) + 1 } := List.getElem?_set_self hti
      have hp4 : H2 p = some (.tup [.int o.slot, .int e.stamp]) := o2 _ _ hp3 pA
      have act := ac4 tn v' hv'
      have spos : 0 ≤ (if tn < i + 1 then z + (tn : Int) else e.start + tn) ∧ (if tn < i + 1 then z + (tn : Int) else e.start + tn) < e.start + e.size := by
        split <;> omega
      refine .inl ⟨by rw [osz, vl], ⟨by omega, by omega⟩, by omega, A, _, p, o.slot, x, { e with to := some z, done := (i : Int) + 1 }, tn, v', i, rfl, rfl, rfl, rfl, ⟨m4, by rw [hp4]; rfl, eo.stamp, hax, hset4, oo.live⟩, by omega, by simp only [hfs, osz]; omega, by rw [spot4]; exact spos.1, by rw [spot4]; exact act, fun H3 o3 m5 => ?_⟩
      rw [spot4] at m5
      have w5d : H3 o.o = _ := o3 _ _ w4d oA
      have w5v : H3 o.v = _ := o3 _ _ w4v vA
      have hp5 : H3 p = some (.tup [.int o.slot, .int e.stamp]) := o3 _ _ hp4 pA
      simp [w5d, w5v, ht, hv2]
      refine val_ne (av4 v' (List.mem_of_getElem? act)) (.inl ⟨rfl, ?_⟩)
      obtain ⟨dm5, hm5⟩ := m5.hm
      simp [hm5]
      refine ⟨A, _, p, o.slot, x, { e with to := some z, done := (i : Int) + 1 }, tn, rfl, rfl, rfl, ⟨m5, by rw [hp5]; rfl, eo.stamp, hax, hset4, oo.live⟩, by omega, by simp only [osz]; omega, ?_⟩
      rw [spot4]
      simp [w5d, ← ost]
      refine ⟨by decide, fun l hl => ?_⟩
      have nol : o.o ≠ l := ne_of_none w5d hl
      have nvl : o.v ≠ l := ne_of_none w5v hl
      have w3' : WAt H3 B { W with os := W.os.set j { o with vals := vs } } := (w3.out o2 fun b hb => I.dj b (foot_set (o' := { o with vals := vs }) hj rfl rfl hb)).out o3 fun b hb => I.dj b (foot_set (o' := { o with vals := vs }) hj rfl rfl hb)
      have e6 : Ex H3 (upd H3 l (.lst [.int e.start, .int z])) := Ex.up hl
      have w6 := (w3'.ex e6).setVals (o := { o with vals := vs }) (j := j) (List.getElem?_set_self hjl) (xs := vs.set tn (.int i))
      simp only [List.set_set] at w6
      have o6 : Out A.foot H' (upd H3 l (.lst [.int e.start, .int z])) := (o2.trans o3).trans (e6.mono (by simp))
      have o7 : Out (A.foot ++ B.foot W.os) H (upd (upd H3 l (.lst [.int e.start, .int z])) o.v (.lst (vs.set tn (.int i)))) := Out.put (o1.trans (o6.mono (by simp; intro x hx; exact .inl hx))) (by rw [List.mem_append]; exact .inr (I.wat.mv ho))
      have m6 : MemAt K (upd (upd H3 l (.lst [.int e.start, .int z])) o.v (.lst (vs.set tn (.int i)))) A _ := (m5.ex e6).frame fun b u hb hu => by rw [upd_ne (fun z => vA (by rw [← z]; exact hb))]; exact hu
      have hp6 : upd (upd H3 l (.lst [.int e.start, .int z])) o.v (.lst (vs.set tn (.int i))) p = some (.tup [.int o.slot, .int e.stamp]) := by
        rw [upd_ne (fun z => pB (by rw [z]; exact I.wat.mv ho)), e6.at hp5]
      have hl6 : upd (upd H3 l (.lst [.int e.start, .int z])) o.v (.lst (vs.set tn (.int i))) B.lv = H B.lv := by
        rw [upd_ne (w3'.v_lv (o := { o with vals := vs }) o1m).symm, ← hlv]
        obtain ⟨u, hu⟩ := rk_d w3.hl
        rw [hu]
        exact o6 _ _ hu (I.dj _ (by simp [WA.foot]))
      have ac5 : ∀ (k : Nat) u, (vs.set tn (.int i))[k]? = some u → (ar4.set (if tn < i + 1 then z + (tn : Int) else e.start + tn).toNat (.int i))[(if k < i + 1 then z + k else e.start + k).toNat]? = some u := by
        intro k u hk
        by_cases h1 : k = tn
        · subst h1
          rw [List.getElem?_set_self ht] at hk
          cases hk
          rw [List.getElem?_set_self (by omega)]
        · rw [List.getElem?_set_ne (Ne.symm h1)] at hk
          have hkl := (List.getElem?_eq_some_iff.mp hk).1
          rw [List.getElem?_set_ne (by split <;> split <;> omega)]
          exact ac4 k u hk
      have ak5 : ∀ q : Nat, ((q : Int) < z ∨ e.start + e.size ≤ q) → (ar4.set (if tn < i + 1 then z + (tn : Int) else e.start + tn).toNat (.int i))[q]? = M.arena[q]? := by
        intro q hq
        rw [List.getElem?_set_ne (by split <;> omega)]
        exact ak4 q hq
      have key : ∀ y : Int, y = (if tn < i + 1 then z + (tn : Int) else e.start + tn) → uNe K (V.int (if tn < i + 1 then z + (tn : Int) else e.start + tn)) (.int y) (upd H3 l (.lst [.int e.start, .int z])) fun x H1 => x = V.bl false ∧
            kIx K o.o (V.str (Str.ofString "values")) H1
              (fun o_1 H1 =>
                uSet o_1 (V.int ↑tn) (V.int ↑i) H1 fun H3 =>
                  Out (A.foot ++ B.foot W.os) H H3 ∧
                    H3 p = some (HO.tup [V.int ↑o.slot, V.int e.stamp]) ∧
                      H3 B.lv = H B.lv ∧
                        ∃ ar,
                          MemAt K H3 A ⟨ar, M.tab.set o.slot { e with to := some z, done := ↑i + 1 }, M.fin⟩ ∧
                            ∃ x,
                              WAt H3 B { W with os := W.os.set j { slot := o.slot, o := o.o, v := o.v, start := e.start, vals := x, filled := o.filled } } ∧
                                x.length = o.vals.length ∧
                                  ar.length = M.arena.length ∧
                                    (∀ (v : V), v ∈ ar → v = V.non ∨ ∃ i, v = V.int i) ∧
                                      (∀ (q : Nat), ↑q < z ∨ e.start + e.size ≤ ↑q → ar[q]? = M.arena[q]?) ∧
                                        ∀ (k : Nat) (v : V),
                                          x[k]? = some v →
                                            ar[(if k < i + 1 then z + ↑k else e.start + ↑k).toNat]? = some v)
              (rk (H1 o.o)) ∨
          x = V.bl true ∧ Q (V.bl false) H1 := by
        rintro y rfl
        simp [w5d, w5v, nol, nvl, ht]
        refine ⟨o7, hp6, hl6, _, m6, _, ?_, by simp [vl], by rw [List.length_set]; exact al4, arena_set av4 (.inr ⟨_, rfl⟩), ak5, ac5⟩
        rw [ost] at w6 ⊢
        exact w6
      by_cases htl : tn ≤ i
      · rw [if_pos htl]
        simp only [atI_1]
        exact key _ (by rw [if_pos (by omega)])
      · rw [if_neg htl]
        simp only [atI_0]
        exact key _ (by rw [if_neg (by omega)])
    · rintro σ' H' ⟨⟨s7, s8, rfl⟩, o1, hp3, hlv, ar, vs, m3, w3, vl, al, av, ak, ac⟩
      obtain ⟨dm3, hm3⟩ := m3.hm
      simp only [Int.toNat_natCast] at m3 ac
      have hset : (M.tab.set o.slot { e with to := some z, done := (o.vals.length : Int) })[o.slot]? = some { e with to := some z, done := (o.vals.length : Int) } := List.getElem?_set_self hti
      have o1m : ({ o with vals := vs } : One) ∈ ({ W with os := W.os.set j { o with vals := vs } } : WM).os := List.mem_iff_getElem?.mpr ⟨j, List.getElem?_set_self hjl⟩
      simp [hm3, sp_Memory_turn]
      refine ⟨A, _, o.slot, x, { e with to := some z, done := (o.vals.length : Int) }, z, rfl, rfl, ⟨m3, hax, hset, oo.live⟩, rfl, by simp only [osz]; omega, fun H2 o2 m4 => ?_⟩
      simp only [List.set_set] at m4
      have w3' := w3.out o2 fun b hb => I.dj b (foot_set (o' := { o with vals := vs }) hj rfl rfl hb)
      have w4d : H2 o.o = some (.dK (oneF o.start o.v o.filled)) := w3'.hd { o with vals := vs } o1m
      simp [w4d]
      refine ⟨by decide, ?_⟩
      have w5 := w3'.setOne (o := { o with vals := vs }) (j := j) (List.getElem?_set_self hjl) (s := z) (f := o.filled)
      simp only [List.set_set] at w5
      have m5 : MemAt K (upd H2 o.o (.dK (oneF z o.v o.filled))) A _ := m4.frame fun b u hb hu => by rw [upd_ne (fun z => oA (by rw [← z]; exact hb))]; exact hu
      refine q _ ⟨ar, M.tab.set o.slot { e with start := z }, M.fin⟩ vs vl ⟨?_, w5, ?_, fun b hb => I.dj b (foot_set (o' := { o with start := z, vals := vs }) hj rfl rfl hb)⟩ rfl rfl ?_ ?_
      · have z1 : ({ e with start := z } : Ent) = { e with start := z, to := none, done := 0 } := by
          rw [← nto, ← eo.done]
        rw [z1]
        exact m5
      · refine I.rel.change I.wat.ks hj he al av ⟨eo.stamp, eo.size, hz0, eo.filled, eo.done, eo.mark, eo.to⟩ ⟨ls.1, ls.2.1, by simp; omega⟩ rfl rfl ⟨oo.live, rfl, by simp only [osz, vl], ofl, ?_, fun k v hk => ⟨fun _ => ?_, fun zz => ?_⟩⟩ (fun i y hi2 hy hlv => ?_) fun i y q hi2 hy hlv h1 h2 => ak q ?_
        · right
          simp only [vl]
          omega
        · have t : k < vs.length := (List.getElem?_eq_some_iff.mp hk).1
          have := ac k v hk
          rw [if_pos (by omega)] at this
          exact this
        · have t : k < vs.length := (List.getElem?_eq_some_iff.mp hk).1
          exact absurd (show (k : Int) < o.filled by omega) zz
        · have := hoth i y hi2 hy hlv
          show z + e.size ≤ y.start ∨ y.start + y.size ≤ z
          omega
        · have := hoth i y hi2 hy hlv
          omega
      · refine Out.put (o1.trans (o2.mono (by simp; intro x hx; exact .inl hx))) (by rw [List.mem_append]; exact .inr (I.wat.mo ho))
      · rw [upd_ne (w3'.o_lv (o := { o with vals := vs }) o1m).symm, ← hlv]
        obtain ⟨u, hu⟩ := rk_d w3.hl
        rw [hu]
        exact o2 _ _ hu (I.dj _ (by simp [WA.foot]))
end
end G

namespace G
open PySem L2 U
section
variable {K : PySem.W.Frag} {H : Hp} {Q : VK} {E : XK} {A : MA} {B : WA} {M : Mem} {W : WM} {j : Nat} {o o' : One} {e e' : Ent} {ar : List V}
def liveAt (es : List Ent) (i : Nat) : Bool := match es[i]? with
  | some e => e.live
  | none => false
theorem live_idx (es : List Ent) : (es.filter (·.live)).length = ((List.range es.length).filter (liveAt es)).length := by
  have key : ∀ n, n ≤ es.length → ((es.take n).filter (·.live)).length = ((List.range n).filter (liveAt es)).length := by
    intro n
    induction n with
    | zero => intro _; rfl
    | succ n ih =>
      intro hn
      have he : es[n]? = some es[n] := List.getElem?_eq_getElem (by omega)
      rw [List.take_succ, he, List.filter_append, List.length_append, ih (by omega), List.range_succ, List.filter_append, List.length_append]
      congr 1
      have : liveAt es n = es[n].live := by unfold liveAt; rw [he]
      cases h : es[n].live <;> simp [this, h]
  have := key es.length (Nat.le_refl _)
  rw [List.take_length] at this
  exact this
theorem Rel.mem_slot (R : Rel W M) {i : Nat} : i ∈ W.os.map (·.slot) ↔ ∃ e, M.tab[i]? = some e ∧ e.live = true := by
  constructor
  · intro h
    obtain ⟨o, ho, rfl⟩ := List.mem_map.mp h
    obtain ⟨e, he, oo⟩ := R.os o ho
    exact ⟨e, he, oo.live⟩
  · rintro ⟨e, he, hl⟩
    obtain ⟨o, ho, e⟩ := R.liv i e he hl
    exact List.mem_map.mpr ⟨o, ho, e⟩
theorem Rel.liveN (R : Rel W M) (ks : (W.os.map (·.slot)).Nodup) : M.liveN = W.os.length := by
  unfold Mem.liveN
  rw [live_idx]
  have : ((List.range M.tab.length).filter (liveAt M.tab)).Perm (W.os.map (·.slot)) := by
    rw [List.perm_ext_iff_of_nodup (List.Pairwise.filter _ List.nodup_range) ks]
    intro i
    rw [R.mem_slot, List.mem_filter, List.mem_range]
    unfold liveAt
    constructor
    · rintro ⟨h1, h2⟩
      rw [List.getElem?_eq_getElem h1] at h2
      exact ⟨_, List.getElem?_eq_getElem h1, h2⟩
    · rintro ⟨e, h1, h2⟩
      exact ⟨(List.getElem?_eq_some_iff.mp h1).1, by rw [h1]; exact h2⟩
  rw [this.length_eq, List.length_map]
theorem notin_d {a : Addr} {kvs : List (Key × V)} {i : Int} (h : rk (H a) = .d kvs) (k : Q (.bl (!(valV kvs (.inl i)).isSome)) H) : uNotIn K (.int i) (.ref a) H Q := by
  unfold uNotIn uInB
  simp only [h]
  exact k
theorem got_if (p : Nat → Bool) (g : Nat → V) (n : Nat) : got (fun i => if p i then some (g i) else none) n = ((List.range n).filter p).map g := by
  unfold got
  generalize List.range n = l
  induction l with
  | nil => rfl
  | cons x l ih =>
    by_cases h : p x = true
    · simp [h, ih]
    · simp [h, ih]
/-- a new object -/
theorem Rel.push (R : Rel W M) (ks : (W.os.map (·.slot)).Nodup) {x : Ent} {n : Int} {o : One} (hx : M.tab[M.least]? = some x) (hl : x.live = false) (n1 : 1 ≤ n) (hf : M.fin + n ≤ M.arena.length) (h1 : o.slot = M.least) (h2 : o.start = M.fin) (h3 : o.vals = List.replicate n.toNat .non) (h4 : o.filled = 0) :
    Rel { W with os := W.os ++ [o], fin := W.fin + n } ⟨M.arena, M.tab.set M.least (x.fresh n M.fin), M.fin + n⟩ := by
  have hi := (List.getElem?_eq_some_iff.mp hx).1
  have set_at : ∀ {i : Nat} {y : Ent}, (M.tab.set M.least (x.fresh n M.fin))[i]? = some y → (i = M.least ∧ y = x.fresh n M.fin) ∨ (i ≠ M.least ∧ M.tab[i]? = some y) := by
    intro i y hy
    by_cases z : i = M.least
    · rw [z, List.getElem?_set_self hi] at hy
      cases hy
      exact .inl ⟨z, rfl⟩
    · rw [List.getElem?_set_ne (Ne.symm z)] at hy
      exact .inr ⟨z, hy⟩
  have set_in : ∀ {y : Ent}, y ∈ M.tab.set M.least (x.fresh n M.fin) → y = x.fresh n M.fin ∨ y ∈ M.tab := by
    intro y hy
    obtain ⟨i, hy⟩ := List.getElem?_of_mem hy
    rcases set_at hy with ⟨_, z⟩ | ⟨_, z⟩
    · exact .inl z
    · exact .inr (List.mem_of_getElem? z)
  have f0 := R.snd.f0
  have xo := R.snd.ok x (List.mem_of_getElem? hx)
  refine ⟨R.cells, ?_, by rw [R.fin], ⟨R.snd.a1, R.snd.a2, ?_, ?_, by simp only; omega, hf, R.snd.vals, fun y hy => ?_, fun y hy hlv => ?_, fun a b y z hab ha hb hy hz => ?_⟩, fun y hy => ?_, fun i y hy hlv => ?_⟩
  · show W.stamps = _
    rw [R.stamps, map_set_same (y := x.fresh n M.fin) hx rfl]
  · show 1 ≤ (M.tab.set _ _).length
    rw [List.length_set]; exact R.snd.t1
  · show (M.tab.set _ _).length ≤ 1000
    rw [List.length_set]; exact R.snd.t2
  · rcases set_in hy with rfl | hy
    · exact ⟨xo.stamp, by simp only [Ent.fresh]; omega, f0, Int.le_refl _, rfl, Int.le_refl _, rfl⟩
    · exact R.snd.ok y hy
  · rcases set_in hy with rfl | hy
    · exact ⟨n1, by simp only [Ent.fresh]; omega, Int.le_refl _⟩
    · obtain ⟨s1, s2, s3⟩ := R.snd.span y hy hlv
      exact ⟨s1, s2, by simp only; omega⟩
  · have old : ∀ (i : Nat) (y : Ent), M.tab[i]? = some y → y.live = true → y.start + y.size ≤ M.fin := fun i y h1 h2 => (R.snd.span y (List.mem_of_getElem? h1) h2).2.2
    rcases set_at ha with ⟨rfl, rfl⟩ | ⟨ha1, ha2⟩
    · rcases set_at hb with ⟨rfl, rfl⟩ | ⟨hb1, hb2⟩
      · exact absurd rfl hab
      · exact .inr (old b z hb2 hz)
    · rcases set_at hb with ⟨rfl, rfl⟩ | ⟨hb1, hb2⟩
      · exact .inl (old a y ha2 hy)
      · exact R.snd.dis a b y z hab ha2 hb2 hy hz
  · rcases List.mem_append.mp hy with hy | hy
    · obtain ⟨f, hf, of⟩ := R.os y hy
      have ne : y.slot ≠ M.least := fun z => by
        rw [z, hx] at hf
        cases hf
        rw [of.live] at hl
        cases hl
      exact ⟨f, by rw [List.getElem?_set_ne ne.symm]; exact hf, of⟩
    · simp at hy
      subst hy
      refine ⟨_, by rw [h1]; exact List.getElem?_set_self hi, rfl, by rw [h2]; rfl, by rw [h3]; simp [Ent.fresh]; omega, by rw [h4]; rfl, .inl h4, fun k v hk => ⟨fun z => by omega, fun _ => ?_⟩⟩
      rw [h3] at hk
      have := List.mem_of_getElem? hk
      simp at this
      exact this.2
  · rcases set_at hy with ⟨rfl, rfl⟩ | ⟨h3, h4⟩
    · exact ⟨o, by simp, h1⟩
    · obtain ⟨z, hz, e⟩ := R.liv i y h4 hlv
      exact ⟨z, by simp [hz], e⟩
def WM.dead (W : WM) : List Nat := (List.range W.stamps.length).filter fun i => decide (i ∉ W.os.map (·.slot))
theorem asg_to {te : TE} {i : Nat} {v : V} {D : Ends} {σ : L2.St} (h : ∀ P : VK, P v H → te σ H P) (k : D.nx (σ.set i (some v)) H) : tAsg te (gName i) D σ H := h _ k
@[simp] theorem b_methS {C : Addr} {m : Str} {sp : Sp} {E : L2.St → XK} {ta : TE} {t : TA} {σ : L2.St} : uMethS C m sp E ta t σ H Q = ta σ H fun x H1 => kMt C m x H1 (t σ H1 fun vs H2 => sp (x :: vs) H2 Q (E σ)) := by
  unfold uMethS
  congr 1
  funext x H1
  refine propext ⟨?_, fun h => ?_⟩
  · rintro ⟨a, dx, fs, rfl, e, l, h⟩
    unfold kMt
    simp only [e]
    exact ⟨⟨trivial, l⟩, h⟩
  · unfold kMt at h
    split at h
    · rename_i a
      split at h
      · rename_i C' dx fs e
        obtain ⟨⟨h1, l⟩, h⟩ := h
        subst h1
        exact ⟨a, dx, fs, rfl, e, l, h⟩
      · exact h.elim
    · exact h.elim
variable [SitK K]
theorem pure__law_reserved {a b c : V} (h : q__law_reserved K a b c H Q E) : t__law_reserved K { nx := fun _ H1 => Q .non H1, rt := Q } [some a, some b, some c, none, none, none, none] H := by
  unfold t__law_reserved
  obtain ⟨A, B, M, W, n, rfl, rfl, rfl, I, hlv, n1, n2, q⟩ := h
  obtain ⟨dm, hm⟩ := I.mem.hm
  have hN := I.rel.liveN I.wat.ks
  have hfit : M.fits n = (decide (W.fin + n ≤ W.cells) && decide (W.os.length < W.stamps.length)) := by
    unfold Mem.fits
    rw [I.rel.fin, I.rel.cells, I.rel.stamps, hN, List.length_map]
  rw [a_seq]
  refine asg_to (v := .bl (M.fits n)) (fun P k => ?_) ?_
  · simp [I.wat.hw, I.wat.hl, I.wat.hs, liveF_len]
    rw [hfit] at k
    by_cases z : W.fin + n ≤ W.cells
    · refine .inr ⟨z, ?_⟩
      simpa [z] using k
    · refine .inl ⟨by omega, ?_⟩
      simpa [z] using k
  · simp [hm, sp_Memory_fits]
    refine ⟨A, M, n, rfl, rfl, I.mem, fun H1 e1 => ?_⟩
    have w1 := I.wat.ex e1
    have m1 := I.mem.ex e1
    simp [tTryO, e1.at hm, sp_Memory_reserve]
    refine ⟨A, M, n, rfl, rfl, m1, fun hf H2 e2 => ?_, fun hf x H2 t hx hxl ht ht2 o2 m2 => ?_⟩
    · unfold WE wOnly
      refine ⟨true, by simp, fun _ ax hax => ?_, fun z => by cases z⟩
      simp [hf]
      refine q H2 M W ⟨m1.ex e2, w1.ex e2, I.rel, I.dj⟩ (e2.at (e1.at hlv)) ((e1.trans e2).mono (by simp)) fun b hb => .inl hb
    · have w2 := w1.out o2 fun b hb => I.dj b hb
      have hlv2 : H2 B.lv = some (.dK (liveF W.os)) := o2 _ _ (e1.at hlv) (I.dj _ (by simp [WA.foot]))
      simp [w2.hw, w2.hs]
      have hdead : M.least ∉ W.os.map (·.slot) := by
        rw [I.rel.mem_slot]
        rintro ⟨e, he, hl⟩
        rw [hx] at he
        cases he
        rw [hl] at hxl
        cases hxl
      have hsl : W.stamps.length = M.tab.length := by rw [I.rel.stamps, List.length_map]
      have hll : M.least < M.tab.length := (List.getElem?_eq_some_iff.mp hx).1
      have t2 := I.rel.snd.t2
      refine kRng1_lc (by omega) (by omega) (fun i => if decide (i ∉ W.os.map (·.slot)) then some (.int (i : Nat)) else none) (fun i H' e' hi K1 K0 k1 k0 => ?_) fun H3 D hD e3 d3 => ?_
      · simp only [decide_eq_true_eq] at k1 k0
        have w' := w2.ex e'
        simp [wipe, w'.hw]
        refine notin_d w'.hl ?_
        by_cases z : i ∈ W.os.map (·.slot)
        · obtain ⟨y, hy, rfl⟩ := List.mem_map.mp z
          simp [valV_live w2.ks hy]
          exact k0 _ Out.refl (by simp [z])
        · rw [valV_dead z]
          simp
          exact k1 _ _ Out.refl (by simp [z])
      · rw [got_if] at d3
        have w3 := w2.ex e3
        have m3 := m2.ex e3
        refine ⟨W.dead.map fun i : Nat => (i : Int), SqL.of (by rw [d3]; simp [WM.dead]), ?_, fun m hmem hmin => ?_⟩
        · rw [List.length_map]
          exact List.length_pos_of_mem (a := M.least) (List.mem_filter.mpr ⟨List.mem_range.mpr (by omega), by simpa using hdead⟩)
        · have hm : m = (M.least : Nat) := by
            have h1 : (M.least : Int) ∈ W.dead.map fun i : Nat => (i : Int) := by
              refine List.mem_map.mpr ⟨M.least, List.mem_filter.mpr ⟨List.mem_range.mpr (by omega), by simpa using hdead⟩, rfl⟩
            have h2 := hmin _ h1
            obtain ⟨k, hk, rfl⟩ := List.mem_map.mp hmem
            obtain ⟨hk1, hk2⟩ := List.mem_filter.mp hk
            have hkt : k < M.tab.length := by rw [← hsl]; exact List.mem_range.mp hk1
            have : ¬ k < M.least := fun hlt => by
              have := List.not_of_lt_findIdx hlt
              have hlive : M.tab[k].live = true := by simpa using this
              have := I.rel.mem_slot.mpr ⟨_, List.getElem?_eq_getElem hkt, hlive⟩
              simp at hk2
              exact absurd this (by simpa using hk2)
            omega
          subst hm
          have hstl : M.least < W.stamps.length := by omega
          have hst : W.stamps[M.least]'hstl = x.stamp := by
            have : W.stamps[M.least]? = some x.stamp := by rw [I.rel.stamps, List.getElem?_map, hx]; rfl
            exact (List.getElem?_eq_some_iff.mp this).2
          simp [hf, w3.hw, w3.hs, hstl, hst]
          refine ⟨by decide, fun p0 hp0 => ?_⟩
          have tp : t ≠ p0 := ne_of_none (e3.at ht2) hp0
          refine pair_ne (i := M.least) (j := x.stamp) (by rw [upd_ne tp]; exact e3.at ht2) upd_same (.inl ⟨rfl, fun p hp => ?_⟩)
          have e4 : Ex H3 (upd H3 p0 (.tup [.int M.least, .int x.stamp])) := Ex.up hp0
          generalize upd H3 p0 (.tup [.int M.least, .int x.stamp]) = H4 at e4 hp ⊢
          have w4 := w3.ex e4
          have m4 := m3.ex e4
          have nwp : B.w ≠ p := ne_of_none w4.hw hp
          simp [nwp, w4.hw]
          refine ⟨by decide, fun p1 hp1 => ⟨⟨by omega, by omega, by simp [sizeLine]; omega⟩, fun p2 hp2 => ?_⟩⟩
          have pp1 : p ≠ p1 := fun z => by rw [← z, if_pos rfl] at hp1; cases hp1
          rw [if_neg pp1.symm] at hp1
          have p21 : p2 ≠ p1 := fun z => by rw [if_pos z] at hp2; cases hp2
          rw [if_neg p21] at hp2
          have pp2 : p ≠ p2 := fun z => by rw [← z, if_pos rfl] at hp2; cases hp2
          rw [if_neg pp2.symm] at hp2
          have nwp1 : B.w ≠ p1 := ne_of_none w4.hw hp1
          have nwp2 : B.w ≠ p2 := ne_of_none w4.hw hp2
          have hlv4 : H4 B.lv = some (.dK (liveF W.os)) := e4.at (e3.at hlv2)
          have nlp : B.lv ≠ p := ne_of_none hlv4 hp
          have nlp1 : B.lv ≠ p1 := ne_of_none hlv4 hp1
          have nlp2 : B.lv ≠ p2 := ne_of_none hlv4 hp2
          have hmg : mergeK [] (oneF W.fin p2 0) = oneF W.fin p2 0 := by kernel_rfl
          simp [pp1, pp2, nwp1, nwp2]
          refine ⟨oneF W.fin p2 0, rfl, by simp, ?_⟩
          rw [hmg, if_neg nlp, if_neg nlp2, if_neg nlp1, if_neg nlp, hlv4]
          have a1 : Ex H4 (upd (upd (upd (upd H4 p (.dK [])) p1 (.lst [.non])) p2 (.lst (List.replicate n.toNat .non))) p (.dK (oneF W.fin p2 0))) := by
            intro b u hb _
            have b1 := ne_of_none hb hp
            have b2 := ne_of_none hb hp1
            have b3 := ne_of_none hb hp2
            rw [upd_ne b1, upd_ne b3, upd_ne b2, upd_ne b1]
            exact hb
          have a2 : upd (upd (upd (upd H4 p (.dK [])) p1 (.lst [.non])) p2 (.lst (List.replicate n.toNat .non))) p (.dK (oneF W.fin p2 0)) p = some (.dK (oneF W.fin p2 0)) := upd_same
          have a3 : upd (upd (upd (upd H4 p (.dK [])) p1 (.lst [.non])) p2 (.lst (List.replicate n.toNat .non))) p (.dK (oneF W.fin p2 0)) p2 = some (.lst (List.replicate n.toNat .non)) := by rw [upd_ne pp2.symm]; exact upd_same
          generalize upd (upd (upd (upd H4 p (.dK [])) p1 (.lst [.non])) p2 (.lst (List.replicate n.toNat .non))) p (.dK (oneF W.fin p2 0)) = H5 at a1 a2 a3 ⊢
          have w5 := w4.ex a1
          have m5 := m4.ex a1
          have hlv5 : H5 B.lv = some (.dK (liveF W.os)) := a1.at (e4.at (e3.at hlv2))
          have pk : putK (liveF W.os) (.inl (M.least : Int)) (.ref p) = liveF (W.os ++ [⟨M.least, p, p2, W.fin, List.replicate n.toNat .non, 0⟩]) := by
            rw [putK_live hdead]
            simp [liveF]
          have np : ∀ y ∈ W.os, y.o ≠ p := fun y hy => ne_of_none (w4.hd y hy) hp
          have nv : ∀ y ∈ W.os, y.v ≠ p2 := fun y hy => ne_of_none (w4.hv y hy) hp2
          have w6 := w5.setLive (os := W.os ++ [⟨M.least, p, p2, W.fin, List.replicate n.toNat .non, 0⟩]) (fun y hy => by
              rcases List.mem_append.mp hy with hy | hy
              · exact w5.hd y hy
              · simp at hy; subst hy; exact a2) (fun y hy => by
              rcases List.mem_append.mp hy with hy | hy
              · exact w5.hv y hy
              · simp at hy; subst hy; exact a3) (by
              rw [List.map_append, List.nodup_append]
              refine ⟨w5.ks, by simp, fun a ha b hb z => ?_⟩
              simp at hb
              rw [z, hb] at ha
              exact hdead ha) (by
              rw [List.map_append, List.nodup_append]
              refine ⟨w5.nd, by simp, fun a ha b hb z => ?_⟩
              simp at hb
              obtain ⟨y, hy, e⟩ := List.mem_map.mp ha
              exact np y hy (by rw [← hb, ← z]; exact e)) (by
              rw [List.map_append, List.nodup_append]
              refine ⟨w5.nv, by simp, fun a ha b hb z => ?_⟩
              simp at hb
              obtain ⟨y, hy, e⟩ := List.mem_map.mp ha
              exact nv y hy (by rw [← hb, ← z]; exact e)) (fun y hy => by
              rcases List.mem_append.mp hy with hy | hy
              · exact w5.sv y hy
              · simp at hy; subst hy; exact (ne_of_none w4.hs hp2).symm) (fun y hy => by
              rcases List.mem_append.mp hy with hy | hy
              · exact w5.o_lv hy
              · simp at hy; subst hy; exact (ne_of_none (e4.at (e3.at hlv2)) hp).symm)
          simp [liveF_len]
          rw [pk]
          have lA : B.lv ∉ A.foot := I.dj _ (by simp [WA.foot])
          have hlen : W.os.length ≤ M.tab.length := by
            rw [← hN]
            exact List.length_filter_le _ _
          generalize hO : (⟨M.least, p, p2, W.fin, List.replicate n.toNat .non, 0⟩ : One) = O at w6 ⊢
          have wA : B.w ∉ A.foot := I.dj _ (by simp [WA.foot])
          have wlv := w5.w_lv
          have hw5 := w5.hw
          obtain ⟨dm5, hm5⟩ := m5.hm
          have mA : A.m ∈ A.foot := by simp [MA.foot]
          have nm1 : A.m ≠ B.lv := fun z => lA (by rw [← z]; exact mA)
          have nm2 : A.m ≠ B.w := fun z => wA (by rw [← z]; exact mA)
          rw [if_neg wlv, hw5]
          refine ⟨by simp [sizeLine]; omega, ?_⟩
          simp [wlv, hw5, nm1, nm2, hm5, sp_Memory_end, sp_Memory_live]
          have w7 := w6.setFin (e := W.fin + n)
          have m7 : MemAt K (upd (upd H5 B.lv (.dK (liveF (W.os ++ [O])))) B.w (.dK (wF W.cells B.st B.lv (W.fin + n)))) A _ := m5.frame fun b u hb hu => by rw [upd_ne (fun z => wA (by rw [← z]; exact hb)), upd_ne (fun z => lA (by rw [← z]; exact hb))]; exact hu
          have hlv7 : upd (upd H5 B.lv (.dK (liveF (W.os ++ [O])))) B.w (.dK (wF W.cells B.st B.lv (W.fin + n))) B.lv = some (.dK (liveF (W.os ++ [O]))) := by rw [upd_ne wlv.symm]; exact upd_same
          have o7 : Out (A.foot ++ B.foot W.os) H (upd (upd H5 B.lv (.dK (liveF (W.os ++ [O])))) B.w (.dK (wF W.cells B.st B.lv (W.fin + n)))) := by
            refine Out.put (Out.put ?_ (by simp [WA.foot])) (by simp [WA.foot])
            exact ((((e1.mono (by simp)).trans (o2.mono (by simp; intro x hx; exact .inl hx))).trans (e3.mono (by simp))).trans (e4.mono (by simp))).trans (a1.mono (by simp))
          have hp0' : H4 p = none := hp
          have back : ∀ {b : Addr}, H4 b = none → H b = none := fun {b} hb => by
            cases z : H b with
            | none => rfl
            | some u =>
              exfalso
              have z1 := e1.at z
              by_cases hbA : b ∈ A.foot
              · obtain ⟨u', hu'⟩ := m4.alive hbA
                rw [hb] at hu'; cases hu'
              · have := e4.at (e3.at (o2 b u z1 hbA))
                rw [hb] at this; cases this
          have r7 := I.rel.push (n := n) (o := O) I.wat.ks hx hxl n1 (by
            unfold Mem.fits at hf
            simp at hf
            omega) (by rw [← hO]) (by rw [← hO]; exact I.rel.fin) (by rw [← hO]) (by rw [← hO])
          have djO : ∀ b ∈ B.foot (W.os ++ [O]), b ∈ B.foot W.os ∨ H4 b = none := by
            intro b hb
            simp only [WA.foot, List.mem_cons, List.mem_flatMap] at hb ⊢
            rcases hb with hb | hb | hb | ⟨y, hy, hb⟩
            · exact .inl (.inl hb)
            · exact .inl (.inr (.inl hb))
            · exact .inl (.inr (.inr (.inl hb)))
            · rcases List.mem_append.mp hy with hy | hy
              · exact .inl (.inr (.inr (.inr ⟨y, hy, hb⟩)))
              · simp at hy
                rw [hy, ← hO] at hb
                simp at hb
                rcases hb with rfl | rfl
                · exact .inr hp
                · exact .inr hp2
          have i7 : Inv3 K (upd (upd H5 B.lv (.dK (liveF (W.os ++ [O])))) B.w (.dK (wF W.cells B.st B.lv (W.fin + n)))) A B _ _ := ⟨m7, w7, r7, fun b hb hbA => by
            rcases djO b hb with h | h
            · exact I.dj b h hbA
            · obtain ⟨u', hu'⟩ := m4.alive hbA
              rw [h] at hu'; cases hu'⟩
          have lN := r7.liveN w7.ks
          generalize upd (upd H5 B.lv (.dK (liveF (W.os ++ [O])))) B.w (.dK (wF W.cells B.st B.lv (W.fin + n))) = H7 at i7 hlv7 o7 ⊢
          refine ⟨by decide, A, _, rfl, i7.mem, ?_⟩
          obtain ⟨dm7, hm7⟩ := i7.mem.hm
          have w7' := i7.wat
          simp [w7'.hw, hm7, I.rel.fin]
          refine ⟨A, _, rfl, i7.mem, fun H8 e8 => ?_⟩
          have w8 := i7.wat.ex e8
          simp [w8.hw, w8.hl, liveF_len]
          rw [lN]
          simp
          exact q H8 _ _ ⟨i7.mem.ex e8, w8, i7.rel, i7.dj⟩ (e8.at hlv7) (o7.trans (e8.mono (by simp))) fun b hb => (djO b hb).imp id back
end
end G

namespace G
open PySem L2
def sp_law (K : PySem.W.Frag) : Sp := U.S1 (q_law K)
def t_law (K : PySem.W.Frag) : TS :=
  (tSeq (tAsg (U.uCall (sp__law_rich K) E0 (tCons (U.uCall (sp__law_cell K) E0 (tCons (tVar 0) (tCons (tC (.int 0)) tNil))) (tCons (tC (.int 0)) tNil))) (gName 1))
  (tSeq (tAsg (tDisp [((tC (.str "cells")), (tOp (U.uAdd K) (tC (.int 1000)) (tOp U.uMod (tVar 1) (tC (.int 9001))))), ((tC (.str "stamps")), (tOp (U.uMul K) (tLst (tCons (tC (.int 0)) tNil)) (tOp (U.uAdd K) (tC (.int 200)) (tOp U.uMod (tOp U.uFdiv (tVar 1) (tC (.int 9001))) (tC (.int 801)))))), ((tC (.str "live")), tDNewK), ((tC (.str "end")), (tC (.int 0)))]) (gName 2))
  (tSeq (tAsg (U.uMake (He.ga K "Memory") (sp_Memory___init__ K) E0 (tCons (tOp (U.uIx K) (tVar 2) (tC (.str "cells"))) (tCons (tCB (U.uLen K) (tCons (tOp (U.uIx K) (tVar 2) (tC (.str "stamps"))) tNil)) tNil))) (gName 3))
  (tSeq (tFor (iRng1 (tCons (tOp (U.uAdd K) (tC (.int 300)) (tOp U.uMod (tOp U.uFdiv (tVar 1) (tOp U.uPow (tC (.int 10)) (tC (.int 8)))) (tC (.int 300)))) tNil)) (gName 4) (tSeq (tAsg (U.uCall (sp__law_rich K) E0 (tCons (U.uCall (sp__law_cell K) E0 (tCons (tVar 0) (tCons (tOp (U.uAdd K) (tC (.int 1)) (tOp U.uMod (tVar 4) (tC (.int 7)))) tNil))) (tCons (tVar 4) tNil))) (gName 5))
  (tIfS (tOr (tTest (tOp (U.uLt K) (tOp U.uMod (tVar 5) (tC (.int 7))) (tC (.int 5)))) (tTest (tOp (U.uEq K) (tCB (U.uLen K) (tCons (tOp (U.uIx K) (tVar 2) (tC (.str "live"))) tNil)) (tC (.int 0))))) (tIfS (tNot (U.tTru K (U.uCall (sp__law_reserved K) E0 (tCons (tVar 2) (tCons (tVar 3) (tCons (tOp (U.uAdd K) (tC (.int 1)) (tOp U.uMod (tOp U.uFdiv (tVar 5) (tC (.int 7))) (tC (.int 30)))) tNil)))))) (tRet (tC (.bl false))) tNext) (tSeq (tAsg (tCB U.rSortedD (tCons (tOp (U.uIx K) (tVar 2) (tC (.str "live"))) tNil)) (gName 6))
  (tSeq (tAsg (tOp (U.uIx K) (tVar 6) (tOp U.uMod (tOp U.uFdiv (tVar 5) (tC (.int 7))) (tCB (U.uLen K) (tCons (tVar 6) tNil)))) (gName 7))
  (tIfS (tTest (tOp (U.uEq K) (tOp U.uMod (tOp U.uFdiv (tVar 5) (tC (.int 5000))) (tC (.int 2))) (tC (.int 0)))) (tSeq (tDrop (U.uMeth (He.ga K "Memory") "free" (sp_Memory_free K) E0 (tVar 3) (tCons (tVar 7) tNil)))
  (tSeq (tDrop (tDPop1 (tOp (U.uIx K) (tVar 2) (tC (.str "live"))) (tVar 7)))
  (tAsg (tOp (U.uAdd K) (tOp (U.uIx K) (tOp (U.uIx K) (tVar 2) (tC (.str "stamps"))) (tVar 7)) (tC (.int 1))) (gSub (tOp (U.uIx K) (tVar 2) (tC (.str "stamps"))) (tVar 7) U.uSet)))) (tIfS (tNot (U.tTru K (U.uCall (sp__law_filled K) E0 (tCons (tVar 2) (tCons (tVar 3) (tCons (tVar 7) tNil)))))) (tRet (tC (.bl false))) (tSeq (tAsg (tOp (U.uIx K) (tOp (U.uIx K) (tVar 2) (tC (.str "live"))) (tVar 7)) (gName 8))
  (tSeq (tAsg (tOp U.uMod (tOp U.uFdiv (tVar 5) (tC (.int 10000))) (tCB (U.uLen K) (tCons (tOp (U.uIx K) (tVar 8) (tC (.str "values"))) tNil))) (gName 9))
  (tSeq (tIfS (tTest (tOp (U.uNe K) (U.uMeth (He.ga K "Memory") "write" (sp_Memory_write K) E0 (tVar 3) (tCons (tTup (tCons (tVar 7) (tCons (tOp (U.uIx K) (tOp (U.uIx K) (tVar 2) (tC (.str "stamps"))) (tVar 7)) tNil))) (tCons (tVar 9) (tCons (tVar 5) tNil)))) (tOp (U.uIx K) (tOp (U.uIx K) (tVar 8) (tC (.str "values"))) (tVar 9)))) (tRet (tC (.bl false))) tNext)
  (tAsg (tVar 5) (gSub (tOp (U.uIx K) (tVar 8) (tC (.str "values"))) (tVar 9) U.uSet))))))))))))
  (tSeq (tAsg (tCB (rSortedPO K) (tCons (tLockE (tLc (iKeys (tOp (U.uIx K) (tVar 2) (tC (.str "live")))) (gName 7) tYes (tTup (tCons (tOp (U.uIx K) (tOp (U.uIx K) (tOp (U.uIx K) (tVar 2) (tC (.str "live"))) (tVar 7)) (tC (.str "start"))) (tCons (tVar 7) tNil))) [7])) tNil)) (gName 10))
  (tSeq (tAsg (tC (.int 0)) (gName 11))
  (tSeq (tFor (iRng1 (tCons (tCB (U.uLen K) (tCons (tVar 10) tNil)) tNil)) (gName 12) (tSeq (tAsg (tOp (U.uIx K) (tOp (U.uIx K) (tVar 10) (tVar 12)) (tC (.int 1))) (gName 7))
  (tSeq (tIfS (tNot (U.tTru K (U.uCall (sp__law_filled K) E0 (tCons (tVar 2) (tCons (tVar 3) (tCons (tVar 7) tNil)))))) (tRet (tC (.bl false))) tNext)
  (tSeq (tIfS (tAnd (tTest (tOp U.uGt (tOp (U.uIx K) (tOp (U.uIx K) (tVar 10) (tVar 12)) (tC (.int 0))) (tVar 11))) (tNot (U.tTru K (U.uCall (sp__law_moved K) E0 (tCons (tVar 2) (tCons (tVar 3) (tCons (tVar 7) (tCons (tVar 11) (tCons (U.uCall (sp__law_rich K) E0 (tCons (tVar 1) (tCons (tVar 12) tNil))) tNil))))))))) (tRet (tC (.bl false))) tNext)
  (tAsg (tOp (U.uAdd K) (tVar 11) (tCB (U.uLen K) (tCons (tOp (U.uIx K) (tOp (U.uIx K) (tOp (U.uIx K) (tVar 2) (tC (.str "live"))) (tVar 7)) (tC (.str "values"))) tNil))) (gName 11))))))
  (tSeq (tDrop (U.uMeth (He.ga K "Memory") "settle" (sp_Memory_settle K) E0 (tVar 3) (tCons (tVar 11) tNil)))
  (tSeq (tAsg (tVar 11) (gSub (tVar 2) (tC (.str "end")) U.uSet))
  (tSeq (tLock (tFor (iKeys (tOp (U.uIx K) (tVar 2) (tC (.str "live")))) (gName 7) (tIfS (tNot (U.tTru K (U.uCall (sp__law_right K) E0 (tCons (tVar 2) (tCons (tVar 3) (tCons (tVar 7) tNil)))))) (tRet (tC (.bl false))) tNext)))
  (tSeq (tAsg (U.uCall (sp_restored K) E0 (tCons (U.uMeth (He.ga K "Memory") "state" (sp_Memory_state K) E0 (tVar 3) tNil) tNil)) (gName 13))
  (tRet (tAndV (tOp (U.uEq K) (U.uMeth (He.ga K "Memory") "end" (sp_Memory_end K) E0 (tVar 3) tNil) (tVar 11)) (tAndV (tOp (U.uEq K) (U.uMeth (He.ga K "Memory") "state" (sp_Memory_state K) E0 (tVar 13) tNil) (U.uMeth (He.ga K "Memory") "state" (sp_Memory_state K) E0 (tVar 3) tNil)) (U.uCall (sp__law_reserved K) E0 (tCons (tVar 2) (tCons (tVar 13) (tCons (tOp (U.uAdd K) (tC (.int 1)) (tOp U.uMod (tVar 1) (tC (.int 40)))) tNil))))))))))))))))))
end G

namespace G
open PySem L2
def seg_law_0 (K : PySem.W.Frag) : TS :=
  (tAsg (U.uCall (sp__law_rich K) E0 (tCons (U.uCall (sp__law_cell K) E0 (tCons (tVar 0) (tCons (tC (.int 0)) tNil))) (tCons (tC (.int 0)) tNil))) (gName 1))
def seg_law_1 (K : PySem.W.Frag) : TS :=
  (tAsg (tDisp [((tC (.str "cells")), (tOp (U.uAdd K) (tC (.int 1000)) (tOp U.uMod (tVar 1) (tC (.int 9001))))), ((tC (.str "stamps")), (tOp (U.uMul K) (tLst (tCons (tC (.int 0)) tNil)) (tOp (U.uAdd K) (tC (.int 200)) (tOp U.uMod (tOp U.uFdiv (tVar 1) (tC (.int 9001))) (tC (.int 801)))))), ((tC (.str "live")), tDNewK), ((tC (.str "end")), (tC (.int 0)))]) (gName 2))
def seg_law_2 (K : PySem.W.Frag) : TS :=
  (tAsg (U.uMake (He.ga K "Memory") (sp_Memory___init__ K) E0 (tCons (tOp (U.uIx K) (tVar 2) (tC (.str "cells"))) (tCons (tCB (U.uLen K) (tCons (tOp (U.uIx K) (tVar 2) (tC (.str "stamps"))) tNil)) tNil))) (gName 3))
def seg_law_3 (K : PySem.W.Frag) : TS :=
  (tFor (iRng1 (tCons (tOp (U.uAdd K) (tC (.int 300)) (tOp U.uMod (tOp U.uFdiv (tVar 1) (tOp U.uPow (tC (.int 10)) (tC (.int 8)))) (tC (.int 300)))) tNil)) (gName 4) (tSeq (tAsg (U.uCall (sp__law_rich K) E0 (tCons (U.uCall (sp__law_cell K) E0 (tCons (tVar 0) (tCons (tOp (U.uAdd K) (tC (.int 1)) (tOp U.uMod (tVar 4) (tC (.int 7)))) tNil))) (tCons (tVar 4) tNil))) (gName 5))
  (tIfS (tOr (tTest (tOp (U.uLt K) (tOp U.uMod (tVar 5) (tC (.int 7))) (tC (.int 5)))) (tTest (tOp (U.uEq K) (tCB (U.uLen K) (tCons (tOp (U.uIx K) (tVar 2) (tC (.str "live"))) tNil)) (tC (.int 0))))) (tIfS (tNot (U.tTru K (U.uCall (sp__law_reserved K) E0 (tCons (tVar 2) (tCons (tVar 3) (tCons (tOp (U.uAdd K) (tC (.int 1)) (tOp U.uMod (tOp U.uFdiv (tVar 5) (tC (.int 7))) (tC (.int 30)))) tNil)))))) (tRet (tC (.bl false))) tNext) (tSeq (tAsg (tCB U.rSortedD (tCons (tOp (U.uIx K) (tVar 2) (tC (.str "live"))) tNil)) (gName 6))
  (tSeq (tAsg (tOp (U.uIx K) (tVar 6) (tOp U.uMod (tOp U.uFdiv (tVar 5) (tC (.int 7))) (tCB (U.uLen K) (tCons (tVar 6) tNil)))) (gName 7))
  (tIfS (tTest (tOp (U.uEq K) (tOp U.uMod (tOp U.uFdiv (tVar 5) (tC (.int 5000))) (tC (.int 2))) (tC (.int 0)))) (tSeq (tDrop (U.uMeth (He.ga K "Memory") "free" (sp_Memory_free K) E0 (tVar 3) (tCons (tVar 7) tNil)))
  (tSeq (tDrop (tDPop1 (tOp (U.uIx K) (tVar 2) (tC (.str "live"))) (tVar 7)))
  (tAsg (tOp (U.uAdd K) (tOp (U.uIx K) (tOp (U.uIx K) (tVar 2) (tC (.str "stamps"))) (tVar 7)) (tC (.int 1))) (gSub (tOp (U.uIx K) (tVar 2) (tC (.str "stamps"))) (tVar 7) U.uSet)))) (tIfS (tNot (U.tTru K (U.uCall (sp__law_filled K) E0 (tCons (tVar 2) (tCons (tVar 3) (tCons (tVar 7) tNil)))))) (tRet (tC (.bl false))) (tSeq (tAsg (tOp (U.uIx K) (tOp (U.uIx K) (tVar 2) (tC (.str "live"))) (tVar 7)) (gName 8))
  (tSeq (tAsg (tOp U.uMod (tOp U.uFdiv (tVar 5) (tC (.int 10000))) (tCB (U.uLen K) (tCons (tOp (U.uIx K) (tVar 8) (tC (.str "values"))) tNil))) (gName 9))
  (tSeq (tIfS (tTest (tOp (U.uNe K) (U.uMeth (He.ga K "Memory") "write" (sp_Memory_write K) E0 (tVar 3) (tCons (tTup (tCons (tVar 7) (tCons (tOp (U.uIx K) (tOp (U.uIx K) (tVar 2) (tC (.str "stamps"))) (tVar 7)) tNil))) (tCons (tVar 9) (tCons (tVar 5) tNil)))) (tOp (U.uIx K) (tOp (U.uIx K) (tVar 8) (tC (.str "values"))) (tVar 9)))) (tRet (tC (.bl false))) tNext)
  (tAsg (tVar 5) (gSub (tOp (U.uIx K) (tVar 8) (tC (.str "values"))) (tVar 9) U.uSet))))))))))))
def seg_law_4 (K : PySem.W.Frag) : TS :=
  (tAsg (tCB (rSortedPO K) (tCons (tLockE (tLc (iKeys (tOp (U.uIx K) (tVar 2) (tC (.str "live")))) (gName 7) tYes (tTup (tCons (tOp (U.uIx K) (tOp (U.uIx K) (tOp (U.uIx K) (tVar 2) (tC (.str "live"))) (tVar 7)) (tC (.str "start"))) (tCons (tVar 7) tNil))) [7])) tNil)) (gName 10))
def seg_law_5 (K : PySem.W.Frag) : TS :=
  (tAsg (tC (.int 0)) (gName 11))
def seg_law_6 (K : PySem.W.Frag) : TS :=
  (tFor (iRng1 (tCons (tCB (U.uLen K) (tCons (tVar 10) tNil)) tNil)) (gName 12) (tSeq (tAsg (tOp (U.uIx K) (tOp (U.uIx K) (tVar 10) (tVar 12)) (tC (.int 1))) (gName 7))
  (tSeq (tIfS (tNot (U.tTru K (U.uCall (sp__law_filled K) E0 (tCons (tVar 2) (tCons (tVar 3) (tCons (tVar 7) tNil)))))) (tRet (tC (.bl false))) tNext)
  (tSeq (tIfS (tAnd (tTest (tOp U.uGt (tOp (U.uIx K) (tOp (U.uIx K) (tVar 10) (tVar 12)) (tC (.int 0))) (tVar 11))) (tNot (U.tTru K (U.uCall (sp__law_moved K) E0 (tCons (tVar 2) (tCons (tVar 3) (tCons (tVar 7) (tCons (tVar 11) (tCons (U.uCall (sp__law_rich K) E0 (tCons (tVar 1) (tCons (tVar 12) tNil))) tNil))))))))) (tRet (tC (.bl false))) tNext)
  (tAsg (tOp (U.uAdd K) (tVar 11) (tCB (U.uLen K) (tCons (tOp (U.uIx K) (tOp (U.uIx K) (tOp (U.uIx K) (tVar 2) (tC (.str "live"))) (tVar 7)) (tC (.str "values"))) tNil))) (gName 11))))))
def seg_law_7 (K : PySem.W.Frag) : TS :=
  (tDrop (U.uMeth (He.ga K "Memory") "settle" (sp_Memory_settle K) E0 (tVar 3) (tCons (tVar 11) tNil)))
def seg_law_8 (K : PySem.W.Frag) : TS :=
  (tAsg (tVar 11) (gSub (tVar 2) (tC (.str "end")) U.uSet))
def seg_law_9 (K : PySem.W.Frag) : TS :=
  (tLock (tFor (iKeys (tOp (U.uIx K) (tVar 2) (tC (.str "live")))) (gName 7) (tIfS (tNot (U.tTru K (U.uCall (sp__law_right K) E0 (tCons (tVar 2) (tCons (tVar 3) (tCons (tVar 7) tNil)))))) (tRet (tC (.bl false))) tNext)))
def seg_law_10 (K : PySem.W.Frag) : TS :=
  (tAsg (U.uCall (sp_restored K) E0 (tCons (U.uMeth (He.ga K "Memory") "state" (sp_Memory_state K) E0 (tVar 3) tNil) tNil)) (gName 13))
def seg_law_11 (K : PySem.W.Frag) : TS :=
  (tRet (tAndV (tOp (U.uEq K) (U.uMeth (He.ga K "Memory") "end" (sp_Memory_end K) E0 (tVar 3) tNil) (tVar 11)) (tAndV (tOp (U.uEq K) (U.uMeth (He.ga K "Memory") "state" (sp_Memory_state K) E0 (tVar 13) tNil) (U.uMeth (He.ga K "Memory") "state" (sp_Memory_state K) E0 (tVar 3) tNil)) (U.uCall (sp__law_reserved K) E0 (tCons (tVar 2) (tCons (tVar 13) (tCons (tOp (U.uAdd K) (tC (.int 1)) (tOp U.uMod (tVar 1) (tC (.int 40)))) tNil)))))))
theorem t_law_eq (K : PySem.W.Frag) : t_law K = tSeq (seg_law_0 K) (tSeq (seg_law_1 K) (tSeq (seg_law_2 K) (tSeq (seg_law_3 K) (tSeq (seg_law_4 K) (tSeq (seg_law_5 K) (tSeq (seg_law_6 K) (tSeq (seg_law_7 K) (tSeq (seg_law_8 K) (tSeq (seg_law_9 K) (tSeq (seg_law_10 K) (seg_law_11 K))))))))))) := rfl
end G

namespace G
open PySem L2 U
section
variable {K : PySem.W.Frag} {H H' H0 : Hp} {Q : VK} {E : XK} {A : MA} {B : WA} {M M' : Mem} {W W' : WM} {j : Nat} {o o' : One} {e e' : Ent} {ar : List V}
structure St3 (K : PySem.W.Frag) (H0 H : Hp) (A : MA) (B : WA) (M : Mem) (W : WM) : Prop where
  inv : Inv3 K H A B M W
  lv : H B.lv = some (.dK (liveF W.os))
  fr : ∀ b ∈ A.foot ++ B.foot W.os, H0 b = none
  ex : Ex H0 H
theorem St3.step (h : St3 K H0 H A B M W) (i : Inv3 K H' A B M' W') (lv : H' B.lv = some (.dK (liveF W'.os))) (o : Out (A.foot ++ B.foot W.os) H H') (nw : ∀ b ∈ B.foot W'.os, b ∈ B.foot W.os ∨ H b = none) : St3 K H0 H' A B M' W' := by
  refine ⟨i, lv, fun b hb => ?_, fun b u hb _ => ?_⟩
  · rcases List.mem_append.mp hb with hb | hb
    · exact h.fr b (List.mem_append.mpr (.inl hb))
    · rcases nw b hb with hb | hb
      · exact h.fr b (List.mem_append.mpr (.inr hb))
      · exact h.ex.free hb
  · refine o b u (h.ex.at hb) fun m => ?_
    rw [h.fr b m] at hb
    cases hb
theorem sq_ex {a : Addr} {xs : List V} (h : SqL K H a xs) (e : Ex H H') : SqL K H' a xs := by
  rcases h with (h | ⟨o, h⟩) | h
  · exact .inl (.inl (e.at h))
  · exact .inl (.inr ⟨o, e.at h⟩)
  · exact .inr h
/-- an object goes -/
theorem Rel.drop (R : Rel W M) (ks : (W.os.map (·.slot)).Nodup) (hj : W.os[j]? = some o) (he : M.tab[o.slot]? = some e) :
    Rel { W with os := W.os.filter (fun x => decide (x.slot ≠ o.slot)), stamps := W.stamps.set o.slot (e.stamp + 1) } ⟨M.arena, M.tab.set o.slot { e with live := false, stamp := e.stamp + 1 }, M.fin⟩ := by
  have hi := (List.getElem?_eq_some_iff.mp he).1
  have set_at : ∀ {i : Nat} {y : Ent}, (M.tab.set o.slot { e with live := false, stamp := e.stamp + 1 })[i]? = some y → (i = o.slot ∧ y = { e with live := false, stamp := e.stamp + 1 }) ∨ (i ≠ o.slot ∧ M.tab[i]? = some y) := by
    intro i y hy
    by_cases z : i = o.slot
    · rw [z, List.getElem?_set_self hi] at hy
      cases hy
      exact .inl ⟨z, rfl⟩
    · rw [List.getElem?_set_ne (Ne.symm z)] at hy
      exact .inr ⟨z, hy⟩
  have set_in : ∀ {y : Ent}, y ∈ M.tab.set o.slot { e with live := false, stamp := e.stamp + 1 } → y = { e with live := false, stamp := e.stamp + 1 } ∨ y ∈ M.tab := by
    intro y hy
    obtain ⟨i, hy⟩ := List.getElem?_of_mem hy
    rcases set_at hy with ⟨_, z⟩ | ⟨_, z⟩
    · exact .inl z
    · exact .inr (List.mem_of_getElem? z)
  have xo := R.snd.ok e (List.mem_of_getElem? he)
  refine ⟨R.cells, ?_, R.fin, ⟨R.snd.a1, R.snd.a2, ?_, ?_, R.snd.f0, R.snd.f1, R.snd.vals, fun y hy => ?_, fun y hy hlv => ?_, fun a b y z hab ha hb hy hz => ?_⟩, fun y hy => ?_, fun i y hy hlv => ?_⟩
  · show W.stamps.set o.slot (e.stamp + 1) = (M.tab.set _ _).map _
    rw [R.stamps, List.map_set]
  · show 1 ≤ (M.tab.set _ _).length
    rw [List.length_set]; exact R.snd.t1
  · show (M.tab.set _ _).length ≤ 1000
    rw [List.length_set]; exact R.snd.t2
  · rcases set_in hy with rfl | hy
    · exact ⟨by have := xo.stamp; simp only; omega, xo.size, xo.start, xo.filled, xo.done, xo.mark, xo.to⟩
    · exact R.snd.ok y hy
  · rcases set_in hy with rfl | hy
    · cases hlv
    · exact R.snd.span y hy hlv
  · rcases set_at ha with ⟨rfl, rfl⟩ | ⟨ha1, ha2⟩
    · cases hy
    · rcases set_at hb with ⟨rfl, rfl⟩ | ⟨hb1, hb2⟩
      · cases hz
      · exact R.snd.dis a b y z hab ha2 hb2 hy hz
  · obtain ⟨hy1, hy2⟩ := List.mem_filter.mp hy
    simp at hy2
    obtain ⟨f, hf, of⟩ := R.os y hy1
    exact ⟨f, by rw [List.getElem?_set_ne (Ne.symm hy2)]; exact hf, of⟩
  · rcases set_at hy with ⟨rfl, rfl⟩ | ⟨h3, h4⟩
    · cases hlv
    · obtain ⟨z, hz, e2⟩ := R.liv i y h4 hlv
      exact ⟨z, List.mem_filter.mpr ⟨hz, by simp; rw [e2]; exact h3⟩, e2⟩
variable [SitK K]
theorem seg0 {a : Addr} {ns : List Int} {D : Ends} (hs : SqL K H a (ns.map V.int)) (k : ∀ rich : Int, D.nx [some (.ref a), some (.int rich), none, none, none, none, none, none, none, none, none, none, none, none] H) :
    seg_law_0 K D [some (.ref a), none, none, none, none, none, none, none, none, none, none, none, none, none] H := by
  unfold seg_law_0
  simp [sp__law_rich, sp__law_cell]
  exact ⟨a, ns, 0, rfl, rfl, hs, fun z => ⟨z, 0, rfl, rfl, fun r => k r⟩⟩
theorem seg12 {a : Addr} {rich : Int} {D : Ends} (k : ∀ H' A B M W, St3 K H H' A B M W → D.nx [some (.ref a), some (.int rich), some (.ref B.w), some (.ref A.m), none, none, none, none, none, none, none, none, none, none] H') :
    tSeq (seg_law_1 K) (seg_law_2 K) D [some (.ref a), some (.int rich), none, none, none, none, none, none, none, none, none, none, none, none] H := by
  unfold seg_law_1 seg_law_2
  simp
  intro p hp
  refine ⟨by decide, fun p1 hp1 => ?_⟩
  have c0 := Int.emod_nonneg rich (show (9001 : Int) ≠ 0 by decide)
  have c1 := Int.emod_lt_of_pos rich (show (0 : Int) < 9001 by decide)
  have m0 := Int.emod_nonneg (rich / 9001) (show (801 : Int) ≠ 0 by decide)
  have m1 := Int.emod_lt_of_pos (rich / 9001) (show (0 : Int) < 801 by decide)
  generalize rich / 9001 % 801 = mm at m0 m1 ⊢
  generalize rich % 9001 = cc at c0 c1 ⊢
  refine ⟨⟨by decide, by decide⟩, ⟨by omega, by omega, by simp [sizeLine]; omega⟩, fun p2 hp2 p3 hp3 => ?_⟩
  have q1 : p1 ≠ p := fun z => by rw [if_pos z] at hp1; cases hp1
  rw [if_neg q1] at hp1
  have q21 : p2 ≠ p1 := fun z => by rw [if_pos z] at hp2; cases hp2
  rw [if_neg q21] at hp2
  have q2 : p2 ≠ p := fun z => by rw [if_pos z] at hp2; cases hp2
  rw [if_neg q2] at hp2
  have q32 : p3 ≠ p2 := fun z => by rw [if_pos z] at hp3; cases hp3
  rw [if_neg q32] at hp3
  have q31 : p3 ≠ p1 := fun z => by rw [if_pos z] at hp3; cases hp3
  rw [if_neg q31] at hp3
  have q3 : p3 ≠ p := fun z => by rw [if_pos z] at hp3; cases hp3
  rw [if_neg q3] at hp3
  refine ⟨fun _ => by rw [if_neg q2.symm, if_neg q1.symm], wF (1000 + cc) p2 p3 0, rfl, by simp, ?_⟩
  have hmg : mergeK [] (wF (1000 + cc) p2 p3 0) = wF (1000 + cc) p2 p3 0 := by kernel_rfl
  rw [hmg]
  generalize hH5 : upd (upd (upd (upd (upd H p (.dK [])) p1 (.lst [.int 0])) p2 (.lst (List.replicate (200 + mm).toNat (.int 0)))) p3 (.dK [])) p (.dK (wF (1000 + cc) p2 p3 0)) = H5
  have e5 : Ex H H5 := by
    intro b u hb _
    rw [← hH5, upd_ne (ne_of_none hb hp), upd_ne (ne_of_none hb hp3), upd_ne (ne_of_none hb hp2), upd_ne (ne_of_none hb hp1), upd_ne (ne_of_none hb hp)]
    exact hb
  have v1 : H5 p = some (.dK (wF (1000 + cc) p2 p3 0)) := by rw [← hH5]; exact upd_same
  have v2 : H5 p2 = some (.lst (List.replicate (200 + mm).toNat (.int 0))) := by rw [← hH5, upd_ne q2, upd_ne q32.symm]; exact upd_same
  have v3 : H5 p3 = some (.dK []) := by rw [← hH5, upd_ne q3]; exact upd_same
  simp [uMake, v1, v2, sp_Memory___init__]
  intro x dx hx hdx hxd
  have hx' : upd H5 dx (.own x) x = none := by rw [upd_ne (fun z => hxd z.symm)]; exact hx
  have ex : Ex H5 (upd (upd H5 dx (HO.own x)) x (HO.ins (He.ga K "Memory") dx [])) := (Ex.up hdx).trans (Ex.up hx')
  refine ⟨x, dx, (1000 + cc).toNat, (200 + mm).toNat, rfl, by simp <;> omega, by simp <;> omega, upd_same, by omega, by omega, by omega, by omega, ?_⟩
  rintro H6 A rfl hM o6 nw
  refine ⟨rfl, ?_⟩
  have e6 : Ex H5 H6 := fun b u hb _ => o6 b u (ex.at hb) (by simp; exact ne_of_none hb hx)
  have w6 : WAt H6 ⟨p, p2, p3⟩ ⟨1000 + cc, List.replicate (200 + mm).toNat 0, [], 0⟩ := by
    refine ⟨e6.at v1, ?_, ?_, fun o h => by simp at h, fun o h => by simp at h, List.nodup_nil, List.nodup_nil, List.nodup_nil, fun o h => by simp at h⟩
    · rw [e6.at v2]
      simp
    · rw [e6.at v3]
      rfl
  have fA : ∀ b ∈ A.foot, H5 b = none := by
    intro b hb
    simp [MA.foot] at hb
    rcases hb with rfl | hb
    · exact hx
    · have := nw b (by simpa using hb)
      cases z : H5 b with
      | none => rfl
      | some u => rw [ex.at z] at this; cases this
  have rep : ∀ {e : Ent}, e ∈ List.replicate (200 + mm).toNat ({} : Ent) → e = {} := fun h => (List.mem_replicate.mp h).2
  refine k H6 A ⟨p, p2, p3⟩ ⟨List.replicate (1000 + cc).toNat .non, List.replicate (200 + mm).toNat {}, 0⟩ ⟨1000 + cc, List.replicate (200 + mm).toNat 0, [], 0⟩ ⟨⟨hM, w6, ⟨?_, ?_, rfl, ⟨?_, ?_, ?_, ?_, Int.le_refl _, ?_, fun v hv => .inl (List.mem_replicate.mp hv).2, fun e he => ?_, fun e he hl => ?_, fun i j e f _ he _ hl => ?_⟩, fun o ho => by simp at ho, fun i e he hl => ?_⟩, fun b hb hbA => ?_⟩, e6.at v3, fun b hb => ?_, e5.trans e6⟩
  · simp <;> omega
  · simp
  · simp <;> omega
  · simp <;> omega
  · simp <;> omega
  · simp <;> omega
  · simp <;> omega
  · rw [rep he]
    exact ⟨by decide, by decide, by decide, by decide, rfl, by decide, rfl⟩
  · rw [rep he] at hl; cases hl
  · rw [rep (List.mem_of_getElem? he)] at hl; cases hl
  · rw [rep (List.mem_of_getElem? he)] at hl; cases hl
  · have h5 := fA b hbA
    simp [WA.foot] at hb
    rcases hb with rfl | rfl | rfl
    · rw [v1] at h5; cases h5
    · rw [v2] at h5; cases h5
    · rw [v3] at h5; cases h5
  · rcases List.mem_append.mp hb with hb | hb
    · exact e5.free (fA b hb)
    · simp [WA.foot] at hb
      rcases hb with rfl | rfl | rfl
      · exact hp
      · exact hp2
      · exact hp3
end
end G

namespace G
open PySem L2 U
section
variable {K : PySem.W.Frag} {H H' H0 : Hp} {Q : VK} {E : XK} {A : MA} {B : WA} {M M' : Mem} {W W' : WM} {j : Nat} {o o' : One} {e e' : Ent} {ar : List V}
variable [SitK K]
theorem seg3 {a : Addr} {ns : List Int} {rich : Int} {D : Ends} (hs : SqL K H0 a (ns.map V.int)) (S : St3 K H0 H A B M W)
    (k : ∀ H' M' W' s4 s5 s6 s7 s8 s9, St3 K H0 H' A B M' W' → D.nx [some (.ref a), some (.int rich), some (.ref B.w), some (.ref A.m), s4, s5, s6, s7, s8, s9, none, none, none, none] H') :
    seg_law_3 K D [some (.ref a), some (.int rich), some (.ref B.w), some (.ref A.m), none, none, none, none, none, none, none, none, none, none] H := by
  unfold seg_law_3
  simp
  refine ⟨⟨by decide, by decide, by decide⟩, ⟨by decide, by decide⟩, ?_⟩
  have c0 := Int.emod_nonneg (rich / 100000000) (show (300 : Int) ≠ 0 by decide)
  have c1 := Int.emod_lt_of_pos (rich / 100000000) (show (0 : Int) < 300 by decide)
  refine kRng1_for ⟨by omega, by omega⟩ (fun i σ' H' => ∃ s4 s5 s6 s7 s8 s9, σ' = [some (.ref a), some (.int rich), some (.ref B.w), some (.ref A.m), s4, s5, s6, s7, s8, s9, none, none, none, none] ∧ ∃ M' W', St3 K H0 H' A B M' W') ⟨_, _, _, _, _, _, rfl, M, W, S⟩ ?_ ?_
  · rintro i σ' H1 hi ⟨s4, s5, s6, s7, s8, s9, rfl, M1, W1, S1⟩
    simp [sp__law_rich, sp__law_cell]
    refine ⟨a, ns, 1 + i % 7, rfl, by simp, sq_ex hs S1.ex, fun z => ⟨z, i, rfl, rfl, fun part => ?_⟩⟩
    have w1 := S1.inv.wat
    have p0 := Int.emod_nonneg (part / 7) (show (30 : Int) ≠ 0 by decide)
    have p1 := Int.emod_lt_of_pos (part / 7) (show (0 : Int) < 30 by decide)
    simp [w1.hw, w1.hl, liveF_len]
    have res : sp__law_reserved K [V.ref B.w, V.ref A.m, V.int (1 + part / 7 % 30)] H1 (fun x H1 => uTru K x H1 fun c H1 => if c = true then ∃ M' W', St3 K H0 H1 A B M' W' else D.rt (V.bl false) H1) E0 := by
      simp [sp__law_reserved]
      exact ⟨A, B, M1, W1, _, rfl, rfl, rfl, S1.inv, S1.lv, by omega, by omega, fun H' M' W' i lv o nw => by simp; exact ⟨M', W', S1.step i lv o nw⟩⟩
    have d7 : CDiv part 7 := ⟨by decide, by decide⟩
    by_cases h5 : part % 7 < 5
    · exact .inr ⟨h5, d7, res⟩
    refine .inl ⟨by omega, ?_⟩
    by_cases h0 : W1.os = []
    · exact .inr ⟨h0, d7, res⟩
    refine .inl ⟨h0, B.lv, liveF W1.os, W1.os.map fun o => (o.slot : Int), rfl, Rd.of S1.lv, by simp [liveF], fun ks p hperm _ hp => ?_⟩
    refine ⟨d7, ?_⟩
    have hkl : ks.length = W1.os.length := by rw [hperm.length_eq, List.length_map]
    have hpos : 0 < ks.length := by
      rw [hkl]
      exact List.length_pos_iff.mpr h0
    have x0 := Int.emod_nonneg (part / 7) (show (ks.length : Int) ≠ 0 by omega)
    have x1 := Int.emod_lt_of_pos (part / 7) (show (0 : Int) < ks.length by omega)
    simp
    refine ⟨hpos, ?_⟩
    generalize part / 7 % (ks.length : Int) = t at x0 x1 ⊢
    obtain ⟨tn, rfl⟩ := Int.eq_ofNat_of_zero_le x0
    have ht : tn < ks.length := by omega
    obtain ⟨o, ho, hko⟩ := List.mem_map.mp (hperm.mem_iff.mp (List.getElem_mem ht))
    obtain ⟨j, hj⟩ := List.getElem?_of_mem ho
    obtain ⟨e, he, oo⟩ := S1.inv.rel.os o ho
    obtain ⟨dm1, hm1⟩ := S1.inv.mem.hm
    have nmp : A.m ≠ p := ne_of_none hm1 hp
    have e2 : Ex H1 (upd H1 p (.lst (ks.map V.int))) := Ex.up hp
    simp [ht, ← hko]
    have hlv2 : upd H1 p (.lst (ks.map V.int)) B.lv = some (.dK (liveF W1.os)) := e2.at S1.lv
    generalize upd H1 p (.lst (ks.map V.int)) = H2 at e2 hlv2 ⊢
    have S2 : St3 K H0 H2 A B M1 W1 := S1.step ⟨S1.inv.mem.ex e2, w1.ex e2, S1.inv.rel, S1.inv.dj⟩ hlv2 (e2.mono (by simp)) fun b hb => .inl hb
    have i2 := S2.inv
    have w2 := i2.wat
    obtain ⟨dm2, hm2⟩ := i2.mem.hm
    obtain ⟨x, dx, hax, hx⟩ := i2.mem.enta he
    have eo := i2.rel.snd.ok e (List.mem_of_getElem? he)
    have hst : W1.stamps[o.slot]? = some e.stamp := by rw [i2.rel.stamps, List.getElem?_map, he]; rfl
    obtain ⟨hi2, hst2⟩ := List.getElem?_eq_some_iff.mp hst
    refine ⟨⟨by decide, by decide⟩, ?_⟩
    by_cases hf : part / 5000 % 2 = 0
    · refine .inr ⟨hf, ?_⟩
      simp [nmp, hm1, hm2, sp_Memory_free]
      refine ⟨A, M1, o.slot, x, e, rfl, rfl, ⟨i2.mem, hax, he, oo.live⟩, eo.to, fun H3 o3 m3 => ?_⟩
      have w3 := w2.out o3 fun b hb => i2.dj b hb
      have hlv3 : H3 B.lv = some (.dK (liveF W1.os)) := o3 _ _ hlv2 (i2.dj _ (by simp [WA.foot]))
      simp [w3.hw, hlv3]
      refine ⟨.inl ⟨_, Rd.of hlv3⟩, .inl o.slot, rfl, ⟨_, valV_live w3.ks ho⟩, ?_⟩
      have w4 := w3.setLive (os := W1.os.filter fun x => decide (x.slot ≠ o.slot)) (fun y hy => w3.hd y (List.mem_filter.mp hy).1) (fun y hy => w3.hv y (List.mem_filter.mp hy).1)
        (w3.ks.sublist ((List.filter_sublist).map _)) (w3.nd.sublist ((List.filter_sublist).map _)) (w3.nv.sublist ((List.filter_sublist).map _)) (fun y hy => w3.sv y (List.mem_filter.mp hy).1) (fun y hy => w3.o_lv (List.mem_filter.mp hy).1)
      have hdk : dropK (liveF W1.os) (Sum.inl (o.slot : Int)) = liveF (W1.os.filter fun x => decide (x.slot ≠ o.slot)) := dropK_live
      have rd := i2.rel.drop i2.wat.ks hj he
      have sub : ∀ b ∈ B.foot (W1.os.filter fun x => decide (x.slot ≠ o.slot)), b ∈ B.foot W1.os := by
        intro b hb
        simp only [WA.foot, List.mem_cons, List.mem_flatMap] at hb ⊢
        rcases hb with hb | hb | hb | ⟨y, hy, hb⟩
        · exact .inl hb
        · exact .inr (.inl hb)
        · exact .inr (.inr (.inl hb))
        · exact .inr (.inr (.inr ⟨y, (List.mem_filter.mp hy).1, hb⟩))
      rw [hdk]
      generalize W1.os.filter (fun x => decide (x.slot ≠ o.slot)) = L at w4 rd sub ⊢
      have lA : B.lv ∉ A.foot := i2.dj _ (by simp [WA.foot])
      have sA : B.st ∉ A.foot := i2.dj _ (by simp [WA.foot])
      simp [w3.w_lv, w3.s_lv, w3.hw, w3.hs, hi2, hst2]
      have w5 := w4.setStamps (ns := W1.stamps.set o.slot (e.stamp + 1))
      have hms : (W1.stamps.set o.slot (e.stamp + 1)).map V.int = (W1.stamps.map V.int).set o.slot (.int (e.stamp + 1)) := List.map_set
      rw [hms] at w5
      have m5 : MemAt K (upd (upd H3 B.lv (.dK (liveF L))) B.st (.lst ((W1.stamps.map V.int).set o.slot (.int (e.stamp + 1))))) A _ := m3.frame fun b u hb hu => by rw [upd_ne (fun z => sA (by rw [← z]; exact hb)), upd_ne (fun z => lA (by rw [← z]; exact hb))]; exact hu
      have S5 := S2.step ⟨m5, w5, rd, fun b hb => i2.dj b (sub b hb)⟩ (by rw [upd_ne w3.s_lv.symm]; exact upd_same) (Out.put (Out.put (o3.mono (by simp; intro x hx; exact .inl hx)) (by simp [WA.foot])) (by simp [WA.foot])) fun b hb => .inl (sub b hb)
      exact ⟨_, _, S5⟩
    · refine .inl ⟨hf, ?_⟩
      simp [sp__law_filled]
      refine ⟨A, B, M1, W1, j, o, e, rfl, rfl, rfl, i2, hj, he, fun H3 M3 i3 ht3 hf3 o3 hl3 => ?_⟩
      have hlv3 : H3 B.lv = some (.dK (liveF (W1.os.set j { o with filled := o.vals.length }))) := by
        rw [hl3, hlv2, liveF_set (o' := { o with filled := o.vals.length }) hj rfl rfl]
      have S3 := S2.step i3 hlv3 o3 fun b hb => .inl (foot_set (o' := { o with filled := o.vals.length }) hj rfl rfl hb)
      have hjl := (List.getElem?_eq_some_iff.mp hj).1
      have hj3 : (W1.os.set j { o with filled := (o.vals.length : Int) })[j]? = some { o with filled := (o.vals.length : Int) } := List.getElem?_set_self hjl
      generalize hW3 : ({ W1 with os := W1.os.set j { o with filled := (o.vals.length : Int) } } : WM) = W3 at i3 S3
      have hj3' : W3.os[j]? = some { o with filled := (o.vals.length : Int) } := by rw [← hW3]; exact hj3
      have hWst : W3.stamps = W1.stamps := by rw [← hW3]
      clear hj3 hW3
      have hti := (List.getElem?_eq_some_iff.mp he).1
      have he3 : M3.tab[o.slot]? = some { e with filled := e.size } := by rw [ht3]; exact List.getElem?_set_self hti
      generalize ho3 : ({ o with filled := (o.vals.length : Int) } : One) = o3' at hj3'
      have ho3m := List.mem_of_getElem? hj3'
      have hsl : o3'.slot = o.slot := by rw [← ho3]
      have hoo : o3'.o = o.o := by rw [← ho3]
      have hvl : o3'.vals = o.vals := by rw [← ho3]
      have w3 := S3.inv.wat
      have m3 := S3.inv.mem
      obtain ⟨dm3, hm3⟩ := m3.hm
      have oo3 := S3.inv.rel.one hj3' (by rw [hsl]; exact he3)
      have vv := valV_live w3.ks ho3m
      rw [hsl] at vv
      have hst3 : W3.stamps[o.slot]? = some e.stamp := by rw [hWst]; exact hst
      obtain ⟨hi3, hst4⟩ := List.getElem?_eq_some_iff.mp hst3
      have ls := i2.rel.snd.span e (List.mem_of_getElem? he) oo.live
      have osz := oo.size
      simp [w3.hw, w3.hl, vv, w3.hd _ ho3m, w3.hv _ ho3m, hm3, w3.hs, hi3, hst4]
      have hpos3 : 0 < o3'.vals.length := by rw [hvl]; omega
      refine ⟨⟨by decide, by decide⟩, hpos3, by decide, fun q hq => ?_⟩
      have y0 := Int.emod_nonneg (part / 10000) (show (o3'.vals.length : Int) ≠ 0 by omega)
      have y1 := Int.emod_lt_of_pos (part / 10000) (show (0 : Int) < o3'.vals.length by omega)
      generalize part / 10000 % (o3'.vals.length : Int) = u at y0 y1 ⊢
      obtain ⟨un, rfl⟩ := Int.eq_ofNat_of_zero_le y0
      have hu : un < o3'.vals.length := by omega
      have e4 : Ex H3 (upd H3 q (.tup [.int o.slot, .int e.stamp])) := Ex.up hq
      have hq4 : upd H3 q (.tup [.int o.slot, .int e.stamp]) q = some (.tup [.int o.slot, .int e.stamp]) := upd_same
      generalize upd H3 q (.tup [.int o.slot, .int e.stamp]) = H4 at e4 hq4 ⊢
      have w4 := w3.ex e4
      have m4 := m3.ex e4
      obtain ⟨v, hv⟩ : ∃ v, o3'.vals[un]? = some v := ⟨_, List.getElem?_eq_getElem hu⟩
      obtain ⟨_, hv2⟩ := List.getElem?_eq_some_iff.mp hv
      have hfl : o3'.filled = o.vals.length := by rw [← ho3]
      have hstart : o3'.start = o.start := by rw [← ho3]
      have ost := oo.start
      have eso := eo.start
      have av := (oo3.at_ un v hv).1 (by rw [hfl, ← hvl]; omega)
      have hspot : ({ e with filled := e.size } : Ent).spot un = o3'.start + un := by
        unfold Ent.spot
        rw [hstart, ← ost]
        simp only [eo.to]
      simp [sp_Memory_write]
      refine ⟨A, M3, q, o.slot, x, { e with filled := e.size }, un, v, part, rfl, rfl, rfl, rfl, ⟨m4, by rw [hq4]; rfl, eo.stamp, hax, he3, oo.live⟩, by omega, by simp only; rw [osz, ← hvl]; omega, by rw [hspot, hstart, ← ost]; omega, by rw [hspot]; exact av, fun H5 o5 m5 => ?_⟩
      rw [hspot] at m5
      have dj3 := S3.inv.dj
      have w5 := w4.out o5 fun b hb => dj3 b hb
      simp [w5.hd _ ho3m, w5.hv _ ho3m, hu, hv2]
      refine val_ne (S3.inv.rel.snd.vals v (List.mem_of_getElem? av)) (.inl ⟨rfl, ?_⟩)
      simp [w5.hd _ ho3m, w5.hv _ ho3m, hu]
      have vA : o3'.v ∉ A.foot := dj3 _ (w3.mv ho3m)
      have w6 := w5.setVals hj3' (xs := o3'.vals.set un (.int part))
      have m6 : MemAt K (upd H5 o3'.v (.lst (o3'.vals.set un (.int part)))) A _ := m5.frame fun b u hb hu => by rw [upd_ne (fun z => vA (by rw [← z]; exact hb))]; exact hu
      have ar1 := S3.inv.rel.snd.f1
      have ar2 := S3.inv.rel.snd.span _ (List.mem_of_getElem? he3) oo.live
      have r6 : Rel { W3 with os := W3.os.set j { o3' with vals := o3'.vals.set un (.int part) } } ⟨M3.arena.set (o3'.start + un).toNat (.int part), M3.tab.set o3'.slot { e with filled := e.size }, M3.fin⟩ := by
        refine S3.inv.rel.change w3.ks hj3' (by rw [hsl]; exact he3) (by rw [List.length_set]) (arena_set S3.inv.rel.snd.vals (.inr ⟨_, rfl⟩)) (S3.inv.rel.snd.ok _ (List.mem_of_getElem? he3)) ar2 rfl rfl ⟨oo.live, oo3.start, by simp only [List.length_set]; exact oo3.size, oo3.filled, by simp only [List.length_set]; exact oo3.all, fun k w hk => ⟨fun _ => ?_, fun zz => ?_⟩⟩ (fun i y hi2 hy hlv => ?_) fun i y g hi2 hy hlv h1 h2 => ?_
        · simp only at hk ⊢
          have hkl : k < o3'.vals.length := by
            have := (List.getElem?_eq_some_iff.mp hk).1
            rwa [List.length_set] at this
          by_cases z : k = un
          · subst z
            rw [List.getElem?_set_self hu] at hk
            cases hk
            rw [List.getElem?_set_self]
            exact (List.getElem?_eq_some_iff.mp av).1
          · rw [List.getElem?_set_ne (Ne.symm z)] at hk
            rw [List.getElem?_set_ne (by rw [hstart, ← ost]; omega)]
            exact (oo3.at_ k w hk).1 (by rw [hfl, ← hvl]; omega)
        · simp only at hk
          have hkl : k < o3'.vals.length := by
            have := (List.getElem?_eq_some_iff.mp hk).1
            rwa [List.length_set] at this
          exact absurd (show (k : Int) < o3'.filled by rw [hfl, ← hvl]; omega) zz
        · exact S3.inv.rel.snd.dis o3'.slot i { e with filled := e.size } y (Ne.symm hi2) (by rw [hsl]; exact he3) hy oo.live hlv
        · have := S3.inv.rel.snd.dis o3'.slot i { e with filled := e.size } y (Ne.symm hi2) (by rw [hsl]; exact he3) hy oo.live hlv
          unfold Ent.apart at this
          simp only at this
          rw [List.getElem?_set_ne (by rw [hstart, ← ost]; rw [← hvl] at osz; omega)]
      have htab : M3.tab.set o3'.slot { e with filled := e.size } = M3.tab := by
        rw [hsl]
        apply List.ext_getElem?
        intro i
        by_cases z : i = o.slot
        · subst z
          rw [List.getElem?_set_self (List.getElem?_eq_some_iff.mp he3).1, he3]
        · rw [List.getElem?_set_ne (Ne.symm z)]
      rw [htab] at r6
      have sub := fun b hb => foot_set (B := B) (os := W3.os) (o' := { o3' with vals := o3'.vals.set un (.int part) }) hj3' rfl rfl (b := b) hb
      refine ⟨_, _, S3.step ⟨m6, w6, r6, fun b hb => dj3 b (sub b hb)⟩ ?_ ?_ fun b hb => .inl (sub b hb)⟩
      · rw [upd_ne (w5.v_lv ho3m).symm, liveF_set (o' := { o3' with vals := o3'.vals.set un (.int part) }) hj3' rfl rfl]
        exact o5 _ _ (e4.at S3.lv) (dj3 _ (by simp [WA.foot]))
      · exact Out.put ((e4.mono (by simp)).trans (o5.mono (by simp; intro x hx; exact .inl hx))) (by rw [List.mem_append]; exact .inr (w3.mv ho3m))
  · rintro σ' H' ⟨s4, s5, s6, s7, s8, s9, rfl, M', W', S'⟩
    exact k _ _ _ _ _ _ _ _ _ S'
end
end G


namespace U
open PySem L2
section
variable {K : PySem.W.Frag} {σ : L2.St} {H : Hp} {Q : VK} {g : TG} {tt : TT} {te tl : TE} {vs : List Nat} {tb : TS} {D : Ends} {td : TE} {R : It → Hp → Prop}
@[simp] theorem w_keys : iKeys td σ H R = td σ H fun x H1 => ∃ d o, x = .ref d ∧ ((∃ kvs, H1 d = some (.frz o (.dK kvs)) ∧ R (Itk d o kvs) H1) ∨ ∃ kvs, H1 d = some (.frz o (.dT kvs)) ∧ R (Itkt d o kvs) H1) := rfl
theorem kKeys_lcR {d : Addr} {od : Obj} {kvs : List (Key × V)} (hd : H d = some (.frz od (.dK kvs))) (hl : kvs.length ≤ 1000000) (Pv : Nat → List V → Hp → Prop) (kp : LcKeeps H Pv) (h0 : ∀ H', Ex H H' → Pv 0 [] H')
    (step : ∀ i q v acc H', Ex H H' → Pv i acc H' → kvs[i]? = some (q, v) → LcStepR g tt te vs σ H' (kV q) (fun y H3 => Pv (i + 1) (acc ++ [y]) H3) (fun H3 => Pv (i + 1) acc H3))
    (k : ∀ H' D acc, H D = none → Ex H H' → H' D = some (.lst acc) → Pv kvs.length acc H' → Q (.ref D) H') : rLc g tt te vs σ Q (Itk d od kvs) H := by
  intro D hD
  refine lc_it walk_keys (fun i H' => ∃ acc, acc.length ≤ i ∧ Ex H H' ∧ H' D = some (.lst acc) ∧ Pv i acc H') ⟨[], Nat.le_refl _, Ex.up hD, upd_same, h0 _ (Ex.up hD)⟩ (fun i H' _ ⟨acc, _, e, _, _⟩ => e.at hd)
    (fun i x H' H2 hi ⟨acc, hacc, e, d, p⟩ y => ?_) (fun H' ⟨acc, _, e, d, p⟩ => k H' D acc hD e d p)
  obtain ⟨rfl, q, v, hk, rfl⟩ := y
  exact lc_turnR kp hD (by omega) hacc e d (step i q v acc H2 e p hk)
theorem kKeys_for {d : Addr} {od : Obj} {kvs : List (Key × V)} (Pv : Nat → L2.St → Hp → Prop) (h0 : Pv 0 σ H) (hG : ∀ i σ' H', i ≤ kvs.length → Pv i σ' H' → H' d = some (.frz od (.dK kvs)))
    (hs : ∀ i q v σ' H', kvs[i]? = some (q, v) → Pv i σ' H' → g (kV q) σ' H' fun σ2 H2 => tb { D with nx := Pv (i + 1), ct := Pv (i + 1), bk := D.nx } σ2 H2) (hd : ∀ σ' H', Pv kvs.length σ' H' → D.nx σ' H') : rFor g tb D σ (Itk d od kvs) H := by
  refine for_it walk_keys Pv h0 hG (fun i x σ' H1 H2 hi p y => ?_) hd
  obtain ⟨rfl, q, v, hk, rfl⟩ := y
  exact hs i q v σ' _ hk p
theorem perm_map_ex {α β : Type} {f : α → β} {xs ys : List β} (h : xs.Perm ys) : ∀ {l : List α}, l.map f = ys → ∃ l' : List α, l'.Perm l ∧ l'.map f = xs := by
  induction h with
  | nil => intro l e; exact ⟨l, .refl _, e⟩
  | cons x h ih =>
    intro l e
    cases l with
    | nil => cases e
    | cons a l =>
      rw [List.map_cons] at e
      obtain ⟨e1, e2⟩ := List.cons.inj e
      obtain ⟨l', p, q⟩ := ih e2
      exact ⟨a :: l', p.cons a, by rw [List.map_cons, e1, q]⟩
  | swap x y l0 =>
    intro l e
    match l, e with
    | a :: b :: l, e =>
      rw [List.map_cons, List.map_cons] at e
      obtain ⟨e1, e2⟩ := List.cons.inj e
      obtain ⟨e2, e3⟩ := List.cons.inj e2
      exact ⟨b :: a :: l, .swap _ _ _, by rw [List.map_cons, List.map_cons, e1, e2, e3]⟩
    | [a], e => simp at e
    | [], e => simp at e
  | trans _ _ ih1 ih2 =>
    intro l e
    obtain ⟨l2, p2, q2⟩ := ih2 e
    obtain ⟨l1, p1, q1⟩ := ih1 q2
    exact ⟨l1, p1.trans p2, q1⟩
end
end U
namespace G
open PySem L2 U
section
variable {K : PySem.W.Frag} {H H' H0 : Hp} {Q : VK} {E : XK} {A : MA} {B : WA} {M M' : Mem} {W W' : WM} {j : Nat} {o o' : One} {e e' : Ent} {ar : List V}
/-- the dict is locked, or no longer -/
theorem Inv3.lock (h : Inv3 K H A B M W) {u : HO} (hu : rk (some u) = .d (liveF W.os)) : Inv3 K (upd H B.lv u) A B M W := by
  have lA : B.lv ∉ A.foot := h.dj _ (by simp [WA.foot])
  refine ⟨h.mem.frame fun b o hb hq => by rw [upd_ne (fun z => lA (by rw [← z]; exact hb))]; exact hq, ⟨?_, ?_, ?_, fun o ho => ?_, fun o ho => ?_, h.wat.ks, h.wat.nd, h.wat.nv, h.wat.sv⟩, h.rel, h.dj⟩
  · rw [upd_ne h.wat.w_lv]; exact h.wat.hw
  · rw [upd_ne h.wat.s_lv]; exact h.wat.hs
  · rw [upd_same]; exact hu
  · rw [upd_ne (h.wat.o_lv ho)]; exact h.wat.hd o ho
  · rw [upd_ne (h.wat.v_lv ho)]; exact h.wat.hv o ho
variable [SitK K]
/-- the order stands -/
structure Ord (H : Hp) (A : MA) (B : WA) (W : WM) (po : Addr) (ps : List (Addr × One)) : Prop where
  so : H po = some (.lst (ps.map fun x => V.ref x.1))
  at_ : ∀ x ∈ ps, H x.1 = some (.tup [.int x.2.start, .int x.2.slot])
  np : po ∉ A.foot ++ B.foot W.os
  nt : ∀ x ∈ ps, x.1 ∉ A.foot ++ B.foot W.os
  perm : (ps.map (·.2)).Perm W.os
  srt : ∀ (m n : Nat) x y, m < n → ps[m]? = some x → ps[n]? = some y → x.2.start ≤ y.2.start
theorem seg4 {a : Addr} {rich : Int} {D : Ends} {s4 s5 s6 s7 s8 s9 : Option V} (S : St3 K H0 H A B M W)
    (k : ∀ H' po ps, St3 K H0 H' A B M W → Ord H' A B W po ps → D.nx [some (.ref a), some (.int rich), some (.ref B.w), some (.ref A.m), s4, s5, s6, s7, s8, s9, some (.ref po), none, none, none] H') :
    seg_law_4 K D [some (.ref a), some (.int rich), some (.ref B.w), some (.ref A.m), s4, s5, s6, s7, s8, s9, none, none, none, none] H := by
  unfold seg_law_4
  simp
  refine ⟨B.lv, _, S.lv, trivial, fun od => ?_⟩
  have iL := S.inv.lock (u := .frz od (.dK (liveF W.os))) rfl
  have wL := iL.wat
  simp [S.inv.wat.w_lv, S.inv.wat.hw]
  refine ⟨od, _, ⟨rfl, rfl⟩, ?_⟩
  have t2 := S.inv.rel.snd.t2
  have lN := S.inv.rel.liveN S.inv.wat.ks
  have lle : W.os.length ≤ 1000 := by
    rw [← lN]
    exact Nat.le_trans (List.length_filter_le _ _) t2
  have hlk : upd H B.lv (.frz od (.dK (liveF W.os))) B.lv = some (.frz od (.dK (liveF W.os))) := upd_same
  have oL : Out (A.foot ++ B.foot W.os) H (upd H B.lv (.frz od (.dK (liveF W.os)))) := Out.put Out.refl (by simp [WA.foot])
  generalize upd H B.lv (.frz od (.dK (liveF W.os))) = HL at iL wL hlk oL ⊢
  have live_at : ∀ {i : Nat} {q : Key} {v : V}, (liveF W.os)[i]? = some (q, v) → ∃ o, W.os[i]? = some o ∧ q = .inl (o.slot : Int) ∧ v = .ref o.o := by
    intro i q v h
    unfold liveF at h
    rw [List.getElem?_map] at h
    cases z : W.os[i]? with
    | none => rw [z] at h; cases h
    | some o => rw [z] at h; cases h; exact ⟨o, rfl, rfl, rfl⟩
  have aliveL : ∀ b ∈ A.foot ++ B.foot W.os, ∃ u, HL b = some u := fun b hb => by
    rcases List.mem_append.mp hb with hb | hb
    · exact iL.mem.alive hb
    · exact wL.alive hb
  refine kKeys_lcR hlk (by rw [liveF_len]; omega) (fun i acc H' => ∃ ts : List Addr, acc = ts.map V.ref ∧ ts.length = i ∧ ∀ (j : Nat) t o, ts[j]? = some t → W.os[j]? = some o → HL t = none ∧ H' t = some (.tup [.int o.start, .int o.slot])) ?_ ?_ (fun i q v acc H' e hp hk K1 K0 k1 k0 => ?_) fun H' D1 acc hD e d hp => ?_
  · rintro i acc H' D l l' hD hl ⟨ts, rfl, hlen, ht⟩
    refine ⟨ts, rfl, hlen, fun j t o h1 h2 => ?_⟩
    obtain ⟨z0, z⟩ := ht j t o h1 h2
    exact ⟨z0, by rw [upd_ne (ne_of z hl (by intro q; cases q))]; exact z⟩
  · intro H' _
    exact ⟨[], rfl, rfl, fun j t o h => by simp at h⟩
  · obtain ⟨ts, rfl, hlen, ht⟩ := hp
    obtain ⟨o, ho, rfl, rfl⟩ := live_at hk
    have hom := List.mem_of_getElem? ho
    have w' := wL.ex e
    simp [wipe, kV, w'.hw, w'.hl, valV_live w'.ks hom, w'.hd o hom]
    refine ⟨by decide, fun t htn => k1 _ _ (Ex.up htn) ⟨ts ++ [t], by simp, by simp [hlen], fun j' t' o' h1 h2 => ?_⟩⟩
    by_cases hj : j' < ts.length
    · rw [List.getElem?_append_left hj] at h1
      obtain ⟨z0, z⟩ := ht j' t' o' h1 h2
      exact ⟨z0, by rw [upd_ne (ne_of_none z htn)]; exact z⟩
    · have : j' = ts.length := by
        have := (List.getElem?_eq_some_iff.mp h1).1
        simp at this
        omega
      subst this
      simp at h1
      subst h1
      rw [hlen, ho] at h2
      cases h2
      exact ⟨e.free htn, upd_same⟩
  · obtain ⟨ts, rfl, hlen, ht⟩ := hp
    rw [liveF_len] at hlen
    refine ⟨e.at hlk, ?_⟩
    have i1 : Inv3 K H' A B M W := ⟨iL.mem.ex e, wL.ex e, iL.rel, iL.dj⟩
    have i2 := i1.lock (u := .dK (liveF W.os)) rfl
    have hlv2 : upd H' B.lv (.dK (liveF W.os)) B.lv = some (.dK (liveF W.os)) := upd_same
    have nDl : D1 ≠ B.lv := fun z => by rw [z] at hD; rw [hlk] at hD; cases hD
    have d2 : upd H' B.lv (.dK (liveF W.os)) D1 = some (.lst (ts.map V.ref)) := by rw [upd_ne nDl]; exact d
    have ht2 : ∀ (j : Nat) t o, ts[j]? = some t → W.os[j]? = some o → HL t = none ∧ upd H' B.lv (.dK (liveF W.os)) t = some (.tup [.int o.start, .int o.slot]) := fun j t o h1 h2 => by
      obtain ⟨z0, z⟩ := ht j t o h1 h2
      exact ⟨z0, by rw [upd_ne (fun q => by rw [q, hlk] at z0; cases z0)]; exact z⟩
    have o2 : Out (A.foot ++ B.foot W.os) H (upd H' B.lv (.dK (liveF W.os))) := Out.put (oL.trans (e.mono (by simp))) (by simp [WA.foot])
    generalize upd H' B.lv (.dK (liveF W.os)) = H2 at i2 hlv2 d2 ht2 o2 ⊢
    let zs : List (Addr × One) := ts.zip W.os
    have zf : zs.map (fun x => V.ref x.1) = ts.map V.ref := by
      have : zs.map Prod.fst = ts := List.map_fst_zip (by omega)
      rw [← this, List.map_map]
      rfl
    have zsnd : zs.map Prod.snd = W.os := List.map_snd_zip (by omega)
    have zat : ∀ x ∈ zs, HL x.1 = none ∧ H2 x.1 = some (.tup [.int x.2.start, .int x.2.slot]) := fun x hx => by
      obtain ⟨i, hi⟩ := List.getElem?_of_mem hx
      rw [List.getElem?_zip_eq_some] at hi
      exact ht2 i _ _ hi.1 hi.2
    let kk : V → Int × Int := fun v => match v with
      | .ref t => (match H2 t with
        | some (.tup [.int a, .int b]) => (a, b)
        | _ => (0, 0))
      | _ => (0, 0)
    have kk_at : ∀ x ∈ zs, kk (.ref x.1) = (x.2.start, (x.2.slot : Int)) := fun x hx => by
      simp only [kk, (zat x hx).2]
    refine ⟨D1, ts.map V.ref, kk, rfl, SqL.of d2, fun v hv => ?_, fun ys po hsr hst hpo => ?_⟩
    · rw [← zf] at hv
      obtain ⟨x, hx, rfl⟩ := List.mem_map.mp hv
      exact ⟨x.1, rfl, by rw [kk_at x hx]; exact (zat x hx).2⟩
    · obtain ⟨ps, hps, rfl⟩ := perm_map_ex hst.perm zf
      have e3 : Ex H2 (upd H2 po (.lst (ps.map fun x => V.ref x.1))) := Ex.up hpo
      refine k _ po ps (S.step ⟨i2.mem.ex e3, i2.wat.ex e3, i2.rel, i2.dj⟩ (e3.at hlv2) (o2.trans (e3.mono (by simp))) fun b hb => .inl hb) ⟨upd_same, fun x hx => e3.at (zat x (hps.mem_iff.mp hx)).2, ?_, fun x hx => ?_, ?_, fun m n x y hmn hx hy => ?_⟩
      · refine fresh_not hpo fun b hb => ?_
        rcases List.mem_append.mp hb with hb | hb
        · exact i2.mem.alive hb
        · exact i2.wat.alive hb
      · exact fresh_not (zat x (hps.mem_iff.mp hx)).1 aliveL
      · rw [← zsnd]
        exact hps.map _
      · have hx2 : (ps.map fun x => V.ref x.1)[m]? = some (V.ref x.1) := by rw [List.getElem?_map, hx]; rfl
        have hy2 : (ps.map fun x => V.ref x.1)[n]? = some (V.ref y.1) := by rw [List.getElem?_map, hy]; rfl
        obtain ⟨j1, z1⟩ := List.getElem?_eq_some_iff.mp hx2
        obtain ⟨j2, z2⟩ := List.getElem?_eq_some_iff.mp hy2
        have lt := List.pairwise_iff_getElem.mp hsr m n j1 j2 hmn
        rw [z1, z2] at lt
        have lt2 := SrtO.lexB_no.mp lt
        rw [kk_at x (hps.mem_iff.mp (List.mem_of_getElem? hx)), kk_at y (hps.mem_iff.mp (List.mem_of_getElem? hy))] at lt2
        simp at lt2
        exact lt2.1
end
end G

namespace G
open PySem L2 U
section
variable {K : PySem.W.Frag} {H H' H0 : Hp} {Q : VK} {E : XK} {A : MA} {B : WA} {M M' : Mem} {W W' : WM} {j : Nat} {o o' : One} {e e' : Ent} {ar : List V}
/-- where the moves have come to -/
structure Ph (ps : List (Addr × One)) (i : Nat) (f : Int) (M : Mem) : Prop where
  at_ : ∀ (m : Nat) x, ps[m]? = some x → ∃ e, M.tab[x.2.slot]? = some e ∧ e.live = true ∧ (i ≤ m → e.start = x.2.start ∧ f ≤ e.start) ∧ (m < i → e.start + e.size ≤ f)
  all : ∀ (s : Nat) e, M.tab[s]? = some e → e.live = true → ∃ (m : Nat) (x : Addr × One), ps[m]? = some x ∧ x.2.slot = s
  f0 : 0 ≤ f
  f1 : f ≤ M.fin
theorem Ph.next {ps : List (Addr × One)} {i : Nat} {f : Int} {x : Addr × One} (h : Ph ps i f M) (nd : ∀ (m n : Nat) x y, ps[m]? = some x → ps[n]? = some y → x.2.slot = y.2.slot → m = n) (srt : ∀ (m n : Nat) x y, m < n → ps[m]? = some x → ps[n]? = some y → x.2.start ≤ y.2.start) (sn : M.Sound)
    (hx : ps[i]? = some x) (he : M.tab[x.2.slot]? = some e) (hl : e.live = true) (ht : M'.tab = M.tab.set x.2.slot e') (hf : M'.fin = M.fin) (hs : e'.size = e.size) (hst : e'.start = f) (hl' : e'.live = true) : Ph ps (i + 1) (f + e.size) M' := by
  have hti := (List.getElem?_eq_some_iff.mp he).1
  obtain ⟨e0, he0, _, h2, _⟩ := h.at_ i x hx
  rw [he] at he0
  cases he0
  obtain ⟨h3, h4⟩ := h2 (Nat.le_refl _)
  have sp := sn.span e (List.mem_of_getElem? he) hl
  have f0 := h.f0
  refine ⟨fun m y hy => ?_, fun s z hz hzl => ?_, by omega, by rw [hf]; omega⟩
  · by_cases hm : m = i
    · subst hm
      rw [hx] at hy
      cases hy
      refine ⟨e', by rw [ht]; exact List.getElem?_set_self hti, hl', fun h => by omega, fun _ => by omega⟩
    · have hne : y.2.slot ≠ x.2.slot := fun z => hm (nd m i y x hy hx z)
      obtain ⟨g, hg, hgl, g1, g2⟩ := h.at_ m y hy
      refine ⟨g, by rw [ht, List.getElem?_set_ne (Ne.symm hne)]; exact hg, hgl, fun hmi => ?_, fun hmi => ?_⟩
      · obtain ⟨g3, g4⟩ := g1 (by omega)
        refine ⟨g3, ?_⟩
        have := srt i m x y (by omega) hx hy
        have ap := sn.dis _ _ e g (Ne.symm hne) he hg hl hgl
        have sp2 := sn.span g (List.mem_of_getElem? hg) hgl
        unfold Ent.apart at ap
        omega
      · have := g2 (by omega)
        omega
  · rw [ht] at hz
    by_cases hsx : s = x.2.slot
    · exact ⟨i, x, hx, hsx.symm⟩
    · rw [List.getElem?_set_ne (Ne.symm hsx)] at hz
      exact h.all s z hz hzl
variable [SitK K]
theorem seg56 {a : Addr} {rich : Int} {D : Ends} {s4 s5 s6 s7 s8 s9 : Option V} {po : Addr} {ps : List (Addr × One)} (S : St3 K H0 H A B M W) (O : Ord H A B W po ps)
    (k : ∀ H' M' W' s7 s12 f, St3 K H0 H' A B M' W' → 0 ≤ f → f ≤ M'.fin → (∀ x ∈ M'.tab, x.live = true → x.start + x.size ≤ f) → D.nx [some (.ref a), some (.int rich), some (.ref B.w), some (.ref A.m), s4, s5, s6, s7, s8, s9, some (.ref po), some (.int f), s12, none] H') :
    tSeq (seg_law_5 K) (seg_law_6 K) D [some (.ref a), some (.int rich), some (.ref B.w), some (.ref A.m), s4, s5, s6, s7, s8, s9, some (.ref po), none, none, none] H := by
  unfold seg_law_5 seg_law_6
  have t2 := S.inv.rel.snd.t2
  have lN := S.inv.rel.liveN S.inv.wat.ks
  have lle : W.os.length ≤ 1000 := by
    rw [← lN]
    exact Nat.le_trans (List.length_filter_le _ _) t2
  have psl : ps.length = W.os.length := by rw [← O.perm.length_eq, List.length_map]
  have snd : (ps.map fun x => x.2.slot).Nodup := by
    have : (ps.map (·.2)).map (·.slot) = ps.map fun x => x.2.slot := by rw [List.map_map]; rfl
    rw [← this, (O.perm.map _).nodup_iff]
    exact S.inv.wat.ks
  have nd : ∀ (m n : Nat) x y, ps[m]? = some x → ps[n]? = some y → x.2.slot = y.2.slot → m = n := fun m n x y hx hy h => map_ix (f := fun x : Addr × One => x.2.slot) snd hx hy h
  simp [O.so]
  refine kRng1_for ⟨by omega, by omega⟩ (fun i σ' H' => ∃ s7 s12 f, σ' = [some (.ref a), some (.int rich), some (.ref B.w), some (.ref A.m), s4, s5, s6, s7, s8, s9, some (.ref po), some (.int f), s12, none] ∧ ∃ M' W', St3 K H0 H' A B M' W' ∧ Ph ps i f M' ∧ H' po = some (.lst (ps.map fun x => V.ref x.1)) ∧ (∀ x ∈ ps, H' x.1 = some (.tup [.int x.2.start, .int x.2.slot])) ∧ (∀ b ∈ B.foot W'.os, b ∈ B.foot W.os))
    ⟨_, _, 0, rfl, M, W, S, ?_, O.so, O.at_, fun b h => h⟩ ?_ ?_
  · refine ⟨fun m x hx => ?_, fun s e he hl => ?_, Int.le_refl _, S.inv.rel.snd.f0⟩
    · obtain ⟨e, he, oo⟩ := S.inv.rel.os x.2 (O.perm.mem_iff.mp (List.mem_map.mpr ⟨x, List.mem_of_getElem? hx, rfl⟩))
      exact ⟨e, he, oo.live, fun _ => ⟨oo.start, (S.inv.rel.snd.ok e (List.mem_of_getElem? he)).start⟩, fun h => by omega⟩
    · obtain ⟨o, ho, rfl⟩ := S.inv.rel.liv s e he hl
      obtain ⟨x, hx, rfl⟩ := List.mem_map.mp (O.perm.mem_iff.mpr ho)
      obtain ⟨m, hm⟩ := List.getElem?_of_mem hx
      exact ⟨m, x, hm, rfl⟩
  · rintro i σ' H1 hi ⟨s7', s12, f, rfl, M1, W1, S1, P1, so1, at1, sub1⟩
    have hip : i < ps.length := by simpa using hi
    obtain ⟨x, hx⟩ : ∃ x, ps[i]? = some x := ⟨_, List.getElem?_eq_getElem hip⟩
    obtain ⟨_, hx2⟩ := List.getElem?_eq_some_iff.mp hx
    have hxm := List.mem_of_getElem? hx
    simp [so1, hip, hx2, at1 x hxm, sp__law_filled]
    obtain ⟨e, he, hel, h1, _⟩ := P1.at_ i x hx
    obtain ⟨hes, hfe⟩ := h1 (Nat.le_refl _)
    obtain ⟨o, ho, hos⟩ := S1.inv.rel.liv _ e he hel
    obtain ⟨j, hj⟩ := List.getElem?_of_mem ho
    refine ⟨A, B, M1, W1, j, o, e, rfl, rfl, by rw [hos], S1.inv, hj, by rw [hos]; exact he, fun H2 M2 i2 ht2 hf2 o2 hl2 => ?_⟩
    have hlv2 : H2 B.lv = some (.dK (liveF (W1.os.set j { o with filled := o.vals.length }))) := by
      rw [hl2, S1.lv, liveF_set (o' := { o with filled := o.vals.length }) hj rfl rfl]
    have S2 := S1.step i2 hlv2 o2 fun b hb => .inl (foot_set (o' := { o with filled := o.vals.length }) hj rfl rfl hb)
    have subA : ∀ b, b ∉ A.foot ++ B.foot W.os → b ∉ A.foot ++ B.foot W1.os := fun b hb m => hb (by
      rcases List.mem_append.mp m with m | m
      · exact List.mem_append.mpr (.inl m)
      · exact List.mem_append.mpr (.inr (sub1 b m)))
    have so2 : H2 po = some (.lst (ps.map fun x => V.ref x.1)) := o2 _ _ so1 (subA _ O.np)
    have at2 : ∀ x ∈ ps, H2 x.1 = some (.tup [.int x.2.start, .int x.2.slot]) := fun x hx => o2 _ _ (at1 x hx) (subA _ (O.nt x hx))
    have fin : ∀ H3 M3 W3 o3, St3 K H0 H3 A B M3 W3 → o3 ∈ W3.os → o3.slot = x.2.slot → (o3.vals.length : Int) = e.size → Ph ps (i + 1) (f + e.size) M3 → H3 po = some (.lst (ps.map fun x => V.ref x.1)) → (∀ x ∈ ps, H3 x.1 = some (.tup [.int x.2.start, .int x.2.slot])) → (∀ b ∈ B.foot W3.os, b ∈ B.foot W.os) →
        kIx K B.w (V.str (Str.ofString "live")) H3
          (fun x_1 H1 =>
            uIx K x_1 (V.int ↑x.snd.slot) H1 fun x_2 H1 =>
              uIx K x_2 (V.str (Str.ofString "values")) H1 fun x_3 H1 =>
                uLen K [x_3] H1 fun y H2 =>
                  uAdd K (V.int f) y H2 fun x_4 H1 =>
                    ∃ s7 s12 f,
                      (some (V.int ↑x.snd.slot) = s7 ∧ x_4 = V.int f ∧ some (V.int ↑i) = s12) ∧
                        ∃ M' W',
                          St3 K H0 H1 A B M' W' ∧
                            Ph ps (i + 1) f M' ∧
                              H1 po = some (HO.lst (List.map (fun x => V.ref x.fst) ps)) ∧
                                (∀ (a : Addr) (b : One),
                                    (a, b) ∈ ps → H1 a = some (HO.tup [V.int b.start, V.int ↑b.slot])) ∧
                                  ∀ (b : Addr), b ∈ B.foot W'.os → b ∈ B.foot W.os)
          (rk (H3 B.w)) := by
      intro H3 M3 W3 o3 S3 ho3 hsl3 hvl3 P3 so3 at3 sub3
      have w3 := S3.inv.wat
      have vv := valV_live w3.ks ho3
      rw [hsl3] at vv
      simp [w3.hw, w3.hl, vv, w3.hd _ ho3, w3.hv _ ho3]
      rw [hvl3]
      exact ⟨_, _, _, ⟨rfl, rfl, rfl⟩, M3, W3, S3, P3, so3, fun a b h => at3 (a, b) h, sub3⟩
    have oo := S1.inv.rel.one hj (by rw [hos]; exact he)
    have hti := (List.getElem?_eq_some_iff.mp he).1
    have hjl := (List.getElem?_eq_some_iff.mp hj).1
    have he2 : M2.tab[x.2.slot]? = some { e with filled := e.size } := by rw [ht2, hos]; exact List.getElem?_set_self hti
    have sub2 : ∀ b ∈ B.foot (W1.os.set j { o with filled := (o.vals.length : Int) }), b ∈ B.foot W.os := fun b hb => sub1 b (foot_set (o' := { o with filled := o.vals.length }) hj rfl rfl hb)
    simp [so2, hip, hx2, at2 x hxm]
    by_cases hle : x.2.start ≤ f
    · refine .inl ⟨hle, fin H2 M2 _ { o with filled := o.vals.length } S2 (List.mem_iff_getElem?.mpr ⟨j, List.getElem?_set_self hjl⟩) hos oo.size.symm ?_ so2 at2 sub2⟩
      exact P1.next (e' := { e with filled := e.size }) nd O.srt S1.inv.rel.snd hx he hel (by rw [ht2, hos]) hf2 rfl (by simp only; omega) hel
    · refine .inr ⟨by omega, ?_⟩
      simp [sp__law_rich, sp__law_moved]
      refine ⟨rich, i, rfl, rfl, fun part => ?_⟩
      have hj2 : (W1.os.set j { o with filled := (o.vals.length : Int) })[j]? = some { o with filled := (o.vals.length : Int) } := List.getElem?_set_self hjl
      refine ⟨A, B, M2, _, j, { o with filled := o.vals.length }, { e with filled := e.size }, f, part, rfl, rfl, by rw [← hos], rfl, rfl, i2, hj2, by simp only [hos]; exact he2, rfl, P1.f0, by simp only; omega, fun s y hs hy hyl => ?_, fun H3 M3 vals hvl i3 ht3 hf3 o3 hl3 => ?_⟩
      · rw [ht2] at hy
        simp only at hs
        rw [List.getElem?_set_ne (Ne.symm hs)] at hy
        obtain ⟨m, z, hm, hzs⟩ := P1.all s y hy hyl
        obtain ⟨g, hg, hgl, g1, g2⟩ := P1.at_ m z hm
        rw [hzs, hy] at hg
        cases hg
        have hmi : m ≠ i := fun q => by
          rw [q, hx] at hm
          cases hm
          exact hs (by rw [hos]; exact hzs.symm)
        rcases Nat.lt_or_gt_of_ne hmi with h | h
        · exact .inl (g2 h)
        · right
          obtain ⟨g3, g4⟩ := g1 (by omega)
          have := O.srt i m x z h hx hm
          have ap := S1.inv.rel.snd.dis x.2.slot s e y (by rw [← hos]; exact Ne.symm hs) he hy hel hyl
          have sp := S1.inv.rel.snd.span e (List.mem_of_getElem? he) hel
          have sp2 := S1.inv.rel.snd.span y (List.mem_of_getElem? hy) hyl
          unfold Ent.apart at ap
          simp only
          omega
      · have hlv3 : H3 B.lv = some (.dK (liveF ((W1.os.set j { o with filled := (o.vals.length : Int) }).set j { slot := o.slot, o := o.o, v := o.v, start := f, vals := vals, filled := (o.vals.length : Int) }))) := by
          rw [hl3, hlv2, liveF_set (os := W1.os.set j { o with filled := (o.vals.length : Int) }) (o' := { slot := o.slot, o := o.o, v := o.v, start := f, vals := vals, filled := (o.vals.length : Int) }) hj2 rfl rfl]
        have sub3 := fun b hb => foot_set (B := B) (os := W1.os.set j { o with filled := (o.vals.length : Int) }) (o' := { slot := o.slot, o := o.o, v := o.v, start := f, vals := vals, filled := (o.vals.length : Int) }) hj2 rfl rfl (b := b) hb
        have S3 := S2.step i3 hlv3 o3 fun b hb => .inl (sub3 b hb)
        have subB : ∀ b, b ∉ A.foot ++ B.foot W.os → b ∉ A.foot ++ B.foot (W1.os.set j { o with filled := (o.vals.length : Int) }) := fun b hb m => hb (by
          rcases List.mem_append.mp m with m | m
          · exact List.mem_append.mpr (.inl m)
          · exact List.mem_append.mpr (.inr (sub2 b m)))
        simp
        refine fin H3 M3 _ { slot := o.slot, o := o.o, v := o.v, start := f, vals := vals, filled := (o.vals.length : Int) } S3 (List.mem_iff_getElem?.mpr ⟨j, List.getElem?_set_self (by rw [List.length_set]; exact hjl)⟩) hos (by simp only [hvl]; exact oo.size.symm) ?_ (o3 _ _ so2 (subB _ O.np)) (fun x hx => o3 _ _ (at2 x hx) (subB _ (O.nt x hx))) fun b hb => sub2 b (sub3 b hb)
        refine P1.next (M' := M3) (e' := { e with filled := e.size, start := f }) nd O.srt S1.inv.rel.snd hx he hel ?_ (by rw [hf3, hf2]) rfl rfl hel
        rw [ht3, ht2]
        simp only [hos, List.set_set]
  · rintro σ' H1 ⟨s7', s12, f, rfl, M1, W1, S1, P1, so1, at1, sub1⟩
    refine k _ _ _ _ _ _ S1 P1.f0 P1.f1 fun y hy hl => ?_
    obtain ⟨s, hs⟩ := List.getElem?_of_mem hy
    obtain ⟨m, x, hm, rfl⟩ := P1.all s y hs hl
    obtain ⟨e, he, _, _, h2⟩ := P1.at_ m x hm
    rw [hs] at he
    cases he
    refine h2 ?_
    have := (List.getElem?_eq_some_iff.mp hm).1
    simpa using this
end
end G

namespace G
open PySem L2 U
section
variable {K : PySem.W.Frag} {H H' H0 : Hp} {Q : VK} {E : XK} {A : MA} {B : WA} {M M' : Mem} {W W' : WM} {j : Nat} {o o' : One} {e e' : Ent} {ar : List V}
theorem Rel.settle (R : Rel W M) {f : Int} (f0 : 0 ≤ f) (f1 : f ≤ M.fin) (h : ∀ x ∈ M.tab, x.live = true → x.start + x.size ≤ f) : Rel { W with fin := f } ⟨M.arena, M.tab, f⟩ :=
  ⟨R.cells, R.stamps, rfl, ⟨R.snd.a1, R.snd.a2, R.snd.t1, R.snd.t2, f0, Int.le_trans f1 R.snd.f1, R.snd.vals, R.snd.ok, fun e he hl => ⟨(R.snd.span e he hl).1, (R.snd.span e he hl).2.1, h e he hl⟩, R.snd.dis⟩, R.os, R.liv⟩
/-- a state as data -/
def vD : V → PyData
  | .int i => .int i
  | .bl b => .bool b
  | _ => .none
def rowD (e : Ent) : PyData := .tuple ((rowV e).map vD)
def Mem.data (M : Mem) : PyData := .tuple [.tuple (M.arena.map vD), .tuple (M.tab.map rowD), .int M.fin]
theorem dp_vals {xs : List V} (h : ∀ v ∈ xs, v = .non ∨ (∃ b, v = .bl b) ∨ ∃ i, v = .int i) : DpAll K H xs (xs.map vD) := by
  induction xs with
  | nil => exact .nil
  | cons x xs ih =>
    refine .cons ?_ (ih fun v hv => h v (List.mem_cons_of_mem _ hv))
    rcases h x List.mem_cons_self with rfl | ⟨b, rfl⟩ | ⟨i, rfl⟩
    · exact .non
    · exact .bl b
    · exact .int i
theorem dp_row {t : Addr} (h : H t = some (.tup (rowV e))) : Dp K H (.ref t) (rowD e) := by
  refine .tup (.inl (.inl h)) (dp_vals fun v hv => ?_)
  unfold rowV at hv
  simp at hv
  rcases hv with rfl | rfl | rfl | rfl | rfl | rfl | rfl | rfl | rfl
  · exact .inr (.inr ⟨_, rfl⟩)
  · exact .inr (.inl ⟨_, rfl⟩)
  · exact .inr (.inr ⟨_, rfl⟩)
  · exact .inr (.inr ⟨_, rfl⟩)
  · exact .inr (.inr ⟨_, rfl⟩)
  · cases e.to
    · exact .inl rfl
    · exact .inr (.inr ⟨_, rfl⟩)
  · exact .inr (.inr ⟨_, rfl⟩)
  · exact .inr (.inr ⟨_, rfl⟩)
  · exact .inr (.inl ⟨_, rfl⟩)
theorem dp_rows : ∀ {ts : List Addr} {es : List Ent}, ts.length = es.length → (∀ (i : Nat) t e, ts[i]? = some t → es[i]? = some e → H t = some (.tup (rowV e))) → DpAll K H (ts.map V.ref) (es.map rowD)
  | [], [], _, _ => .nil
  | t :: ts, e :: es, hl, h => .cons (dp_row (h 0 t e rfl rfl)) (dp_rows (by simpa using hl) fun i t e h1 h2 => h (i + 1) t e h1 h2)
  | [], _ :: _, hl, _ => by simp at hl
  | _ :: _, [], hl, _ => by simp at hl
theorem StAt.dp {p : Addr} (h : StAt H p M) (hs : M.Sound) : Dp K H (.ref p) M.data := by
  obtain ⟨pa, pr, ts, h1, h2, h3, h4, h5⟩ := h
  refine .tup (.inl (.inl h1)) (.cons (.tup (.inl (.inl h2)) (dp_vals fun v hv => ?_)) (.cons (.tup (.inl (.inl h3)) (dp_rows h4 h5)) (.cons (.int _) .nil)))
  rcases hs.vals v hv with h | h
  · exact .inl h
  · exact .inr (.inr h)
theorem vD_lay (v : V) : (vD v).canLay0 = true ∧ (vD v).depth = 0 := by
  cases v <;> exact ⟨by simp [vD, PyData.canLay0], by simp [vD, PyData.depth]⟩
theorem vDs_lay (xs : List V) : PyData.canLayAll0 (xs.map vD) = true ∧ PyData.depthAll (xs.map vD) = 0 := by
  induction xs with
  | nil => exact ⟨rfl, rfl⟩
  | cons x xs ih =>
    obtain ⟨a, b⟩ := vD_lay x
    simp [PyData.canLayAll0, PyData.depthAll, a, b, ih.1, ih.2]
theorem row_lay (e : Ent) : (rowD e).canLay0 = true ∧ (rowD e).depth ≤ 1 := by
  obtain ⟨a, b⟩ := vDs_lay (rowV e)
  simp [rowD, PyData.canLay0, PyData.depth, a, b]
theorem rows_lay (es : List Ent) : PyData.canLayAll0 (es.map rowD) = true ∧ PyData.depthAll (es.map rowD) ≤ 1 := by
  induction es with
  | nil => exact ⟨rfl, by simp [PyData.depthAll]⟩
  | cons x xs ih =>
    obtain ⟨a, b⟩ := row_lay x
    simp [PyData.canLayAll0, PyData.depthAll, a, ih.1]
    omega
theorem Mem.data_shaped (M : Mem) : SeqAt.shaped M.data = true := by
  obtain ⟨a, b⟩ := vDs_lay M.arena
  obtain ⟨c, d⟩ := rows_lay M.tab
  unfold SeqAt.shaped
  rw [Bool.and_eq_true]
  refine ⟨by simp [Mem.data, PyData.canLay0, PyData.canLayAll0, a, c], ?_⟩
  simp [Mem.data, PyData.depth, PyData.depthAll, b]
  omega
theorem state_eq {p t : Addr} {P : VK} (hs : M.Sound) (h1 : StAt H p M) (h2 : StAt H t M) (q : P (.bl true) H) : uEq K (.ref p) (.ref t) H P := by
  refine ⟨M.data, M.data, h1.dp hs, h2.dp hs, M.data_shaped, M.data_shaped, ?_⟩
  rw [PySem.SeqAt.eqv_refl M.data (SeqAt.canLay_of_shaped M.data_shaped)]
  exact q
theorem StAt.still {p : Addr} (h : StAt H p M) (x : Ex H H') : StAt H' p M := by
  obtain ⟨pa, pr, ts, h1, h2, h3, h4, h5⟩ := h
  exact ⟨pa, pr, ts, x.at h1, x.at h2, x.at h3, h4, fun i t e a b => x.at (h5 i t e a b)⟩
variable [SitK K]
theorem seg78 {a : Addr} {rich f : Int} {D : Ends} {s4 s5 s6 s7 s8 s9 s10 s12 : Option V} (S : St3 K H0 H A B M W) (f0 : 0 ≤ f) (f1 : f ≤ M.fin) (hf : ∀ x ∈ M.tab, x.live = true → x.start + x.size ≤ f)
    (k : ∀ H', St3 K H0 H' A B ⟨M.arena, M.tab, f⟩ { W with fin := f } → D.nx [some (.ref a), some (.int rich), some (.ref B.w), some (.ref A.m), s4, s5, s6, s7, s8, s9, s10, some (.int f), s12, none] H') :
    tSeq (seg_law_7 K) (seg_law_8 K) D [some (.ref a), some (.int rich), some (.ref B.w), some (.ref A.m), s4, s5, s6, s7, s8, s9, s10, some (.int f), s12, none] H := by
  unfold seg_law_7 seg_law_8
  obtain ⟨dm, hm⟩ := S.inv.mem.hm
  simp [hm, sp_Memory_settle]
  have still : M.still := fun y hy _ => (S.inv.rel.snd.ok y hy).to
  refine ⟨A, M, f, rfl, rfl, S.inv.mem, still, f0, f1, hf, fun H1 o1 m1 => ?_⟩
  have w1 := S.inv.wat.out o1 fun b hb => S.inv.dj b hb
  have wA : B.w ∉ A.foot := S.inv.dj _ (by simp [WA.foot])
  simp [w1.hw]
  refine ⟨by decide, k _ (S.step ⟨m1.frame fun b u hb hu => by rw [upd_ne (fun z => wA (by rw [← z]; exact hb))]; exact hu, w1.setFin, S.inv.rel.settle f0 f1 hf, S.inv.dj⟩ ?_ (Out.put (o1.mono (by simp; intro x hx; exact .inl hx)) (by simp [WA.foot])) fun b hb => .inl hb)⟩
  rw [upd_ne w1.w_lv.symm]
  exact o1 _ _ S.lv (S.inv.dj _ (by simp [WA.foot]))
theorem seg9 {a : Addr} {rich : Int} {D : Ends} {s4 s5 s6 s7 s8 s9 s10 s11 s12 : Option V} (S : St3 K H0 H A B M W)
    (k : ∀ H' s7, St3 K H0 H' A B M W → D.nx [some (.ref a), some (.int rich), some (.ref B.w), some (.ref A.m), s4, s5, s6, s7, s8, s9, s10, s11, s12, none] H') :
    seg_law_9 K D [some (.ref a), some (.int rich), some (.ref B.w), some (.ref A.m), s4, s5, s6, s7, s8, s9, s10, s11, s12, none] H := by
  unfold seg_law_9
  simp
  refine ⟨B.lv, _, S.lv, trivial, fun od => ?_⟩
  have iL := S.inv.lock (u := .frz od (.dK (liveF W.os))) rfl
  simp [S.inv.wat.w_lv, S.inv.wat.hw]
  refine ⟨od, _, ⟨rfl, rfl⟩, ?_⟩
  have hlk : upd H B.lv (.frz od (.dK (liveF W.os))) B.lv = some (.frz od (.dK (liveF W.os))) := upd_same
  have oL : Out (A.foot ++ B.foot W.os) H (upd H B.lv (.frz od (.dK (liveF W.os)))) := Out.put Out.refl (by simp [WA.foot])
  generalize upd H B.lv (.frz od (.dK (liveF W.os))) = HL at iL hlk oL ⊢
  refine kKeys_for (fun i σ' H' => (∃ s7, σ' = [some (.ref a), some (.int rich), some (.ref B.w), some (.ref A.m), s4, s5, s6, s7, s8, s9, s10, s11, s12, none]) ∧ Ex HL H') ⟨⟨_, rfl⟩, Out.refl⟩ (fun i σ' H' _ p => p.2.at hlk) ?_ ?_
  · rintro i q v σ' H' hk ⟨⟨s7', rfl⟩, e⟩
    obtain ⟨o, ho, rfl⟩ : ∃ o, o ∈ W.os ∧ q = .inl (o.slot : Int) := by
      unfold liveF at hk
      rw [List.getElem?_map] at hk
      cases z : W.os[i]? with
      | none => rw [z] at hk; cases hk
      | some o => rw [z] at hk; cases hk; exact ⟨o, List.mem_of_getElem? z, rfl⟩
    simp [kV, sp__law_right]
    refine ⟨A, B, M, W, o, rfl, rfl, rfl, ⟨iL.mem.ex e, iL.wat.ex e, iL.rel, iL.dj⟩, ho, fun H2 e2 => ?_⟩
    simp
    exact e.trans e2
  · rintro σ' H' ⟨⟨s7', rfl⟩, e⟩
    simp
    refine ⟨e.at hlk, k _ _ ?_⟩
    have i1 : Inv3 K H' A B M W := ⟨iL.mem.ex e, iL.wat.ex e, iL.rel, iL.dj⟩
    have i2 := i1.lock (u := .dK (liveF W.os)) rfl
    exact S.step i2 upd_same (Out.put (oL.trans (e.mono (by simp))) (by simp [WA.foot])) fun b hb => .inl hb
theorem seg1011 {a : Addr} {rich f : Int} {D : Ends} {s4 s5 s6 s7 s8 s9 s10 s12 : Option V} (S : St3 K H0 H A B M W) (hf : M.fin = f) (k : ∀ H', D.rt (.bl true) H') :
    tSeq (seg_law_10 K) (seg_law_11 K) D [some (.ref a), some (.int rich), some (.ref B.w), some (.ref A.m), s4, s5, s6, s7, s8, s9, s10, some (.int f), s12, none] H := by
  unfold seg_law_10 seg_law_11
  obtain ⟨dm, hm⟩ := S.inv.mem.hm
  simp [hm, sp_Memory_state, sp_restored, sp_Memory_end, sp__law_reserved]
  refine ⟨A, M, rfl, S.inv.mem, fun H1 p hp e1 st => ⟨p, M, rfl, st, S.inv.rel.snd, fun H2 A2 m2 e2 fr => ?_⟩⟩
  have e12 : Ex H H2 := e1.trans e2
  simp [e12.at hm]
  refine ⟨A, M, rfl, S.inv.mem.ex e12, ?_⟩
  rw [hf]
  obtain ⟨dm2, hm2⟩ := m2.hm
  simp [hm2]
  refine ⟨A2, M, rfl, m2, fun H3 p3 hp3 e3 st3 => ?_⟩
  simp [e3.at (e12.at hm)]
  refine ⟨A, M, rfl, S.inv.mem.ex (e12.trans e3), fun H4 p4 hp4 e4 st4 => ?_⟩
  refine state_eq S.inv.rel.snd (st3.still e4) st4 ?_
  have e34 : Ex H2 H4 := e3.trans e4
  have e14 : Ex H H4 := e12.trans e34
  have r0 := Int.emod_nonneg rich (show (40 : Int) ≠ 0 by decide)
  have r1 := Int.emod_lt_of_pos rich (show (0 : Int) < 40 by decide)
  simp
  refine ⟨A2, B, M, W, _, rfl, rfl, rfl, ⟨m2.ex e34, S.inv.wat.ex e14, S.inv.rel, fun b hb hbA => ?_⟩, e14.at S.lv, by omega, by omega, fun H' _ _ _ _ _ _ => k H'⟩
  obtain ⟨u, hu⟩ := S.inv.wat.alive hb
  have := fr b hbA
  rw [e1.at hu] at this
  cases this
theorem seq1 {a r : TS} {D : Ends} {σ : L2.St} (h : a { D with nx := r D } σ H) : tSeq a r D σ H := h
theorem seq2 {a b r : TS} {D : Ends} {σ : L2.St} (h : tSeq a b { D with nx := r D } σ H) : tSeq a (tSeq b r) D σ H := h
theorem pure_law {a : V} (h : q_law K a H Q E) : t_law K { nx := fun _ H1 => Q .non H1, rt := Q } [some a, none, none, none, none, none, none, none, none, none, none, none, none, none] H := by
  obtain ⟨a, ns, rfl, hs, q⟩ := h
  rw [t_law_eq]
  refine seq1 (seg0 hs fun rich => seq2 (seg12 fun H1 A B M W S => seq1 (seg3 hs S fun H2 M W s4 s5 s6 s7 s8 s9 S => seq1 (seg4 S fun H3 po ps S O => seq2 (seg56 S O fun H4 M W s7 s12 f S f0 f1 hf => seq2 (seg78 S f0 f1 hf fun H5 S => seq1 (seg9 S fun H6 s7 S => seg1011 S rfl fun H7 => q H7)))))))
end
end G

namespace G
open PySem L2 U
theorem law_spec {K : PySem.W.Frag} {H : Hp} {a : Addr} {ns : List Int} (_ : ns.length ≤ 63) (_ : Only H) (hs : SqL K H a (ns.map V.int)) : sp_law K [.ref a] H (fun v _ => v = .bl true) fun _ _ _ => False := ⟨a, ns, rfl, hs, fun _ => rfl⟩
end G

/-! derivations -/
namespace G
open PySem PySem.Spec L2
section
variable {P : Program} {w : World} {K : PySem.W.Frag} {mg : Str → Option Value} {base : Heap}
theorem sc_is_integer : FnScope n_is_integer ["value"] (defScope s_is_integer) := ⟨rfl, rfl, rfl, by decide +kernel, rfl, by decide +kernel, by decide +kernel⟩
theorem g_is_integer (S : Sit K mg) : U.GFn P w K mg base CX0 "is_integer" 1 ["value"] (sp_is_integer K) := by
  obtain ⟨fd, F⟩ := S.says.def_ 0 (d := dd_is_integer) rfl
  have _i : SitK K := ⟨⟨mg, S⟩⟩
  have ok : FnOk P w K mg base CX0 1 _ fd ["value"] (sp_is_integer K) := F.ok (k := 0) sc_is_integer (fun _ _ _ _ h => U.S1.len h) (fun cdv A outer s H vs Q E hr h => ⟨t_is_integer K, PSs.nox ?_, U.S1.use (P := fun vs => t_is_integer K { nx := fun _ H1 => Q .non H1, rt := Q } (start n_is_integer vs) H) h (fun a h => pure_is_integer h)⟩)
  · exact ⟨_, fd, ok, F.bindsN (fun _ _ _ _ _ _ us hl => match us, hl with | [_], _ => rfl), F.kp, f_glo_is_integer S⟩
  · have nd : n_is_integer.Nodup := sc_is_integer.nd
    exact (pss_one (ps_ret (pe_and (pe_callB U.c_isi (by rfl) (f_free_isinstance S) (by decide +kernel) (pa_cons (pv 0) (pa_cons (U.pe_ty (f_free_int S) (by decide +kernel)) pa_nil))) (pe_one (pe_not (pe_callB U.c_isi (by rfl) (f_free_isinstance S) (by decide +kernel) (pa_cons (pv 0) (pa_cons (U.pe_ty (f_free_bool S) (by decide +kernel)) pa_nil))))))))
theorem sc_is_count : FnScope n_is_count ["value"] (defScope s_is_count) := ⟨rfl, rfl, rfl, by decide +kernel, rfl, by decide +kernel, by decide +kernel⟩
theorem g_is_count (S : Sit K mg) : U.GFn P w K mg base CX0 "is_count" 2 ["value"] (sp_is_count K) := by
  obtain ⟨fd, F⟩ := S.says.def_ 1 (d := dd_is_count) rfl
  have _i : SitK K := ⟨⟨mg, S⟩⟩
  have ok : FnOk P w K mg base CX0 2 _ fd ["value"] (sp_is_count K) := F.ok (k := 1) sc_is_count (fun _ _ _ _ h => U.S1.len h) (fun cdv A outer s H vs Q E hr h => ⟨t_is_count K, PSs.nox ?_, U.S1.use (P := fun vs => t_is_count K { nx := fun _ H1 => Q .non H1, rt := Q } (start n_is_count vs) H) h (fun a h => pure_is_count h)⟩)
  · exact ⟨_, fd, ok, F.bindsN (fun _ _ _ _ _ _ us hl => match us, hl with | [_], _ => rfl), F.kp, f_glo_is_count S⟩
  · have nd : n_is_count.Nodup := sc_is_count.nd
    exact (pss_one (ps_ret (pe_and (U.pe_fn (g_is_integer S) (hr.mono (by decide)) pass0 (pa_cons (pv 0) pa_nil)) (pe_one (pe_cmpR U.op_ge (pv 0) pe_int (nomark _))))))
theorem sc_is_handle : FnScope n_is_handle ["value"] (defScope s_is_handle) := ⟨rfl, rfl, rfl, by decide +kernel, rfl, by decide +kernel, by decide +kernel⟩
theorem g_is_handle (S : Sit K mg) : U.GFn P w K mg base CX0 "is_handle" 3 ["value"] (sp_is_handle K) := by
  obtain ⟨fd, F⟩ := S.says.def_ 2 (d := dd_is_handle) rfl
  have _i : SitK K := ⟨⟨mg, S⟩⟩
  have ok : FnOk P w K mg base CX0 3 _ fd ["value"] (sp_is_handle K) := F.ok (k := 2) sc_is_handle (fun _ _ _ _ h => U.S1.len h) (fun cdv A outer s H vs Q E hr h => ⟨t_is_handle K, PSs.nox ?_, U.S1.use (P := fun vs => t_is_handle K { nx := fun _ H1 => Q .non H1, rt := Q } (start n_is_handle vs) H) h (fun a h => pure_is_handle h)⟩)
  · exact ⟨_, fd, ok, F.bindsN (fun _ _ _ _ _ _ us hl => match us, hl with | [_], _ => rfl), F.kp, f_glo_is_handle S⟩
  · have nd : n_is_handle.Nodup := sc_is_handle.nd
    exact (pss_one (ps_ret (pe_and (pe_callB U.c_isi (by rfl) (f_free_isinstance S) (by decide +kernel) (pa_cons (pv 0) (pa_cons (U.pe_ty (f_free_tuple S) (by decide +kernel)) pa_nil))) (pe_and (pe_cmpR (U.op_eq hr.units) (pe_callB U.c_len (by rfl) (f_free_len S) (by decide +kernel) (pa_cons (pv 0) pa_nil)) pe_int (nomark _)) (pe_and (U.pe_fn (g_is_count S) (hr.mono (by decide)) pass0 (pa_cons (pe_ix (U.ix_any (hu_of hr)) (pv 0) pe_int (fun _ _ => rfl)) pa_nil)) (pe_one (U.pe_fn (g_is_count S) (hr.mono (by decide)) pass0 (pa_cons (pe_ix (U.ix_any (hu_of hr)) (pv 0) pe_int (fun _ _ => rfl)) pa_nil))))))))
theorem sc_is_value : FnScope n_is_value ["value"] (defScope s_is_value) := ⟨rfl, rfl, rfl, by decide +kernel, rfl, by decide +kernel, by decide +kernel⟩
theorem g_is_value (S : Sit K mg) : U.GFn P w K mg base CX0 "is_value" 4 ["value"] (sp_is_value K) := by
  obtain ⟨fd, F⟩ := S.says.def_ 3 (d := dd_is_value) rfl
  have _i : SitK K := ⟨⟨mg, S⟩⟩
  have ok : FnOk P w K mg base CX0 4 _ fd ["value"] (sp_is_value K) := F.ok (k := 3) sc_is_value (fun _ _ _ _ h => U.S1.len h) (fun cdv A outer s H vs Q E hr h => ⟨t_is_value K, PSs.nox ?_, U.S1.use (P := fun vs => t_is_value K { nx := fun _ H1 => Q .non H1, rt := Q } (start n_is_value vs) H) h (fun a h => pure_is_value h)⟩)
  · exact ⟨_, fd, ok, F.bindsN (fun _ _ _ _ _ _ us hl => match us, hl with | [_], _ => rfl), F.kp, f_glo_is_value S⟩
  · have nd : n_is_value.Nodup := sc_is_value.nd
    exact (pss_one (ps_ret (pe_or (pe_cmpR U.op_isN (pv 0) pe_non (nomark _)) (pe_or (U.pe_fn (g_is_integer S) (hr.mono (by decide)) pass0 (pa_cons (pv 0) pa_nil)) (pe_one (U.pe_fn (g_is_handle S) (hr.mono (by decide)) pass0 (pa_cons (pv 0) pa_nil)))))))
theorem sc_Entry___init__ : FnScope n_Entry___init__ ["self"] (defScope s_Entry___init__) := ⟨rfl, rfl, rfl, by decide +kernel, rfl, by decide +kernel, by decide +kernel⟩
theorem g_Entry___init__ (S : Sit K mg) : U.GMk P w K mg base CX0 "Entry" (He.ga K "Entry") 1 ["self"] (sp_Entry___init__ K) := by
  obtain ⟨fd, F⟩ := S.says.def_ 4 (d := dd_Entry___init__) rfl
  have _i : SitK K := ⟨⟨mg, S⟩⟩
  have ok : FnOk P w K mg base CX0 1 _ fd ["self"] (sp_Entry___init__ K) := F.ok (k := 0) sc_Entry___init__ (fun _ _ _ _ h => U.S1.len h) (fun cdv A outer s H vs Q E hr h => ⟨t_Entry___init__ K, PSs.nox ?_, U.S1.use (P := fun vs => t_Entry___init__ K { nx := fun _ H1 => Q .non H1, rt := Q } (start n_Entry___init__ vs) H) h (fun a h => pure_Entry___init__ h)⟩)
  · exact ⟨_, fd, ok, F.bindsN (fun _ _ _ _ _ _ us hl => match us, hl with | [_], _ => rfl), f_mkr_Entry S, f_glo_Entry S⟩
  · have nd : n_Entry___init__.Nodup := sc_Entry___init__.nd
    exact (pss_cons (ps_fld (pv 0) pe_int rfl)
    (pss_cons (ps_fld (pv 0) pe_bl rfl)
    (pss_cons (ps_fld (pv 0) pe_int rfl)
    (pss_cons (ps_fld (pv 0) pe_int rfl)
    (pss_cons (ps_fld (pv 0) pe_int rfl)
    (pss_cons (ps_fld (pv 0) pe_non rfl)
    (pss_cons (ps_fld (pv 0) pe_int rfl)
    (pss_cons (ps_fld (pv 0) pe_int rfl)
    (pss_one (ps_fld (pv 0) pe_bl rfl))))))))))
theorem sc_Entry_row : FnScope n_Entry_row ["self"] (defScope s_Entry_row) := ⟨rfl, rfl, rfl, by decide +kernel, rfl, by decide +kernel, by decide +kernel⟩
theorem g_Entry_row (S : Sit K mg) : U.GMt P w K mg base CX0 (He.ga K "Entry") "row" 1 ["self"] (sp_Entry_row K) := by
  obtain ⟨fd, F⟩ := S.says.def_ 5 (d := dd_Entry_row) rfl
  have _i : SitK K := ⟨⟨mg, S⟩⟩
  have ok : FnOk P w K mg base CX0 1 _ fd ["self"] (sp_Entry_row K) := F.ok (k := 0) sc_Entry_row (fun _ _ _ _ h => U.S1.len h) (fun cdv A outer s H vs Q E hr h => ⟨t_Entry_row K, PSs.nox ?_, U.S1.use (P := fun vs => t_Entry_row K { nx := fun _ H1 => Q .non H1, rt := Q } (start n_Entry_row vs) H) h (fun a h => pure_Entry_row h)⟩)
  · exact ⟨f_cls_Entry S, _, fd, ok, F.bindsN (fun _ _ _ _ _ _ us hl => match us, hl with | [_], _ => rfl), f_meth_Entry_row S⟩
  · have nd : n_Entry_row.Nodup := sc_Entry_row.nd
    exact (pss_one (ps_ret (pe_tup (pa_cons (pe_fld (pv 0) rfl) (pa_cons (pe_fld (pv 0) rfl) (pa_cons (pe_fld (pv 0) rfl) (pa_cons (pe_fld (pv 0) rfl) (pa_cons (pe_fld (pv 0) rfl) (pa_cons (pe_fld (pv 0) rfl) (pa_cons (pe_fld (pv 0) rfl) (pa_cons (pe_fld (pv 0) rfl) (pa_cons (pe_fld (pv 0) rfl) pa_nil))))))))))))
theorem sc_Entry_high : FnScope n_Entry_high ["self"] (defScope s_Entry_high) := ⟨rfl, rfl, rfl, by decide +kernel, rfl, by decide +kernel, by decide +kernel⟩
theorem g_Entry_high (S : Sit K mg) : U.GMt P w K mg base CX0 (He.ga K "Entry") "high" 1 ["self"] (sp_Entry_high K) := by
  obtain ⟨fd, F⟩ := S.says.def_ 6 (d := dd_Entry_high) rfl
  have _i : SitK K := ⟨⟨mg, S⟩⟩
  have ok : FnOk P w K mg base CX0 1 _ fd ["self"] (sp_Entry_high K) := F.ok (k := 0) sc_Entry_high (fun _ _ _ _ h => U.S1.len h) (fun cdv A outer s H vs Q E hr h => ⟨t_Entry_high K, PSs.nox ?_, U.S1.use (P := fun vs => t_Entry_high K { nx := fun _ H1 => Q .non H1, rt := Q } (start n_Entry_high vs) H) h (fun a h => pure_Entry_high h)⟩)
  · exact ⟨f_cls_Entry S, _, fd, ok, F.bindsN (fun _ _ _ _ _ _ us hl => match us, hl with | [_], _ => rfl), f_meth_Entry_high S⟩
  · have nd : n_Entry_high.Nodup := sc_Entry_high.nd
    exact (pss_one (ps_ret (pe_op U.op_add (pe_fld (pv 0) rfl) (pe_fld (pv 0) rfl))))
theorem sc_Memory___init__ : FnScope n_Memory___init__ ["self", "cells", "slots"] (defScope s_Memory___init__) := ⟨rfl, rfl, rfl, by decide +kernel, rfl, by decide +kernel, by decide +kernel⟩
theorem g_Memory___init__ (S : Sit K mg) : U.GMk P w K mg base CX0 "Memory" (He.ga K "Memory") 3 ["self", "cells", "slots"] (sp_Memory___init__ K) := by
  obtain ⟨fd, F⟩ := S.says.def_ 7 (d := dd_Memory___init__) rfl
  have _i : SitK K := ⟨⟨mg, S⟩⟩
  have ok : FnOk P w K mg base CX0 3 _ fd ["self", "cells", "slots"] (sp_Memory___init__ K) := F.ok (k := 2) sc_Memory___init__ (fun _ _ _ _ h => U.S3.len h) (fun cdv A outer s H vs Q E hr h => ⟨t_Memory___init__ K, PSs.nox ?_, U.S3.use (P := fun vs => t_Memory___init__ K { nx := fun _ H1 => Q .non H1, rt := Q } (start n_Memory___init__ vs) H) h (fun a b c h => pure_Memory___init__ h)⟩)
  · exact ⟨_, fd, ok, F.bindsN (fun _ _ _ _ _ _ us hl => match us, hl with | [_, _, _], _ => rfl), f_mkr_Memory S, f_glo_Memory S⟩
  · have nd : n_Memory___init__.Nodup := sc_Memory___init__.nd
    exact (pss_cons (ps_if (PW.pt (pw_or (pt_not (U.pt_any (U.pe_fn (g_is_integer S) (hr.mono (by decide)) pass0 (pa_cons (pv 1) pa_nil)))) (pw_or (pt_cmpR (U.op_lt hr.units0) (pv 1) pe_int (nomark _)) (pw_or1 (pt_cmpR U.op_gt (pv 1) (U.pe_gint (f_int_MOST_CELLS S)) (nomark _)))))) (pss_one ps_never) pss_nil)
    (pss_cons (ps_if (PW.pt (pw_or (pt_not (U.pt_any (U.pe_fn (g_is_integer S) (hr.mono (by decide)) pass0 (pa_cons (pv 2) pa_nil)))) (pw_or (pt_cmpR (U.op_lt hr.units0) (pv 2) pe_int (nomark _)) (pw_or1 (pt_cmpR U.op_gt (pv 2) (U.pe_gint (f_int_MOST_SLOTS S)) (nomark _)))))) (pss_one ps_never) pss_nil)
    (pss_cons (ps_fld (pv 0) (pe_op U.op_mul (pe_lst (pa_cons pe_non pa_nil)) (pv 1)) rfl)
    (pss_cons (ps_fld (pv 0) (pe_lc (own := [("_", 3)]) rfl nd (pi_range1 (by rfl) (f_free_range S) (pa_cons (pv 2) pa_nil)) (blkOk_by (N := n_Memory___init__) (sc := defScope s_Memory___init__) (by decide +kernel)) (fun _ _ _ _ _ => (pg_name (i := 3) nd rfl (Or.inl rfl))) (fun _ _ _ _ _ => pts_nil) (fun _ _ _ _ _ => (U.pe_mk0 (g_Entry___init__ S) (hr.mono (by decide)) pass0))) rfl)
    (pss_one (ps_fld (pv 0) pe_int rfl))))))
theorem sc_Memory_end : FnScope n_Memory_end ["self"] (defScope s_Memory_end) := ⟨rfl, rfl, rfl, by decide +kernel, rfl, by decide +kernel, by decide +kernel⟩
theorem g_Memory_end (S : Sit K mg) : U.GMt P w K mg base CX0 (He.ga K "Memory") "end" 1 ["self"] (sp_Memory_end K) := by
  obtain ⟨fd, F⟩ := S.says.def_ 8 (d := dd_Memory_end) rfl
  have _i : SitK K := ⟨⟨mg, S⟩⟩
  have ok : FnOk P w K mg base CX0 1 _ fd ["self"] (sp_Memory_end K) := F.ok (k := 0) sc_Memory_end (fun _ _ _ _ h => U.S1.len h) (fun cdv A outer s H vs Q E hr h => ⟨t_Memory_end K, PSs.nox ?_, U.S1.use (P := fun vs => t_Memory_end K { nx := fun _ H1 => Q .non H1, rt := Q } (start n_Memory_end vs) H) h (fun a h => pure_Memory_end h)⟩)
  · exact ⟨f_cls_Memory S, _, fd, ok, F.bindsN (fun _ _ _ _ _ _ us hl => match us, hl with | [_], _ => rfl), f_meth_Memory_end S⟩
  · have nd : n_Memory_end.Nodup := sc_Memory_end.nd
    exact (pss_one (ps_ret (pe_fld (pv 0) rfl)))
theorem sc_Memory_live : FnScope n_Memory_live ["self"] (defScope s_Memory_live) := ⟨rfl, rfl, rfl, by decide +kernel, rfl, by decide +kernel, by decide +kernel⟩
theorem g_Memory_live (S : Sit K mg) : U.GMt P w K mg base CX0 (He.ga K "Memory") "live" 1 ["self"] (sp_Memory_live K) := by
  obtain ⟨fd, F⟩ := S.says.def_ 9 (d := dd_Memory_live) rfl
  have _i : SitK K := ⟨⟨mg, S⟩⟩
  have ok : FnOk P w K mg base CX0 1 _ fd ["self"] (sp_Memory_live K) := F.ok (k := 0) sc_Memory_live (fun _ _ _ _ h => U.S1.len h) (fun cdv A outer s H vs Q E hr h => ⟨t_Memory_live K, PSs.nox ?_, U.S1.use (P := fun vs => t_Memory_live K { nx := fun _ H1 => Q .non H1, rt := Q } (start n_Memory_live vs) H) h (fun a h => pure_Memory_live h)⟩)
  · exact ⟨f_cls_Memory S, _, fd, ok, F.bindsN (fun _ _ _ _ _ _ us hl => match us, hl with | [_], _ => rfl), f_meth_Memory_live S⟩
  · have nd : n_Memory_live.Nodup := sc_Memory_live.nd
    exact (pss_one (ps_ret (pe_callB U.c_len (by rfl) (f_free_len S) (by decide +kernel) (pa_cons (pe_lc (own := [("entry", 1)]) rfl nd (U.pi_seq (pe_fld (pv 0) rfl)) (blkOk_by (N := n_Memory_live) (sc := defScope s_Memory_live) (by decide +kernel)) (fun _ _ _ _ _ => (pg_name (i := 1) nd rfl (Or.inl rfl))) (fun _ _ _ _ _ => (pts_one (U.pt_any (pe_fld (pv 1) rfl)))) (fun _ _ _ _ _ => (pv 1))) pa_nil))))
theorem sc_Memory__entry_at : FnScope n_Memory__entry_at ["self", "slot"] (defScope s_Memory__entry_at) := ⟨rfl, rfl, rfl, by decide +kernel, rfl, by decide +kernel, by decide +kernel⟩
theorem g_Memory__entry_at (S : Sit K mg) : U.GMt P w K mg base CX0 (He.ga K "Memory") "_entry_at" 3 ["self", "slot"] (sp_Memory__entry_at K) := by
  obtain ⟨fd, F⟩ := S.says.def_ 10 (d := dd_Memory__entry_at) rfl
  have _i : SitK K := ⟨⟨mg, S⟩⟩
  have ok : FnOk P w K mg base CX0 3 _ fd ["self", "slot"] (sp_Memory__entry_at K) := F.ok (k := 2) sc_Memory__entry_at (fun _ _ _ _ h => U.S2.len h) (fun cdv A outer s H vs Q E hr h => ⟨t_Memory__entry_at K, PSs.nox ?_, U.S2.use (P := fun vs => t_Memory__entry_at K { nx := fun _ H1 => Q .non H1, rt := Q } (start n_Memory__entry_at vs) H) h (fun a b h => pure_Memory__entry_at h)⟩)
  · exact ⟨f_cls_Memory S, _, fd, ok, F.bindsN (fun _ _ _ _ _ _ us hl => match us, hl with | [_, _], _ => rfl), f_meth_Memory__entry_at S⟩
  · have nd : n_Memory__entry_at.Nodup := sc_Memory__entry_at.nd
    exact (pss_cons (ps_if (PW.pt (pw_or (pt_not (U.pt_any (U.pe_fn (g_is_count S) (hr.mono (by decide)) pass0 (pa_cons (pv 1) pa_nil)))) (pw_or (pt_cmpR U.op_ge (pv 1) (pe_callB U.c_len (by rfl) (f_free_len S) (by decide +kernel) (pa_cons (pe_fld (pv 0) rfl) pa_nil)) (nomark _)) (pw_or1 (pt_not (U.pt_any (pe_fld (pe_ix (U.ix_any (hu_of hr)) (pe_fld (pv 0) rfl) (pv 1) (fun _ _ => rfl)) rfl))))))) (pss_one ps_never) pss_nil)
    (pss_one (ps_ret (pe_ix (U.ix_any (hu_of hr)) (pe_fld (pv 0) rfl) (pv 1) (fun _ _ => rfl)))))
theorem sc_Memory_is_live : FnScope n_Memory_is_live ["self", "handle"] (defScope s_Memory_is_live) := ⟨rfl, rfl, rfl, by decide +kernel, rfl, by decide +kernel, by decide +kernel⟩
theorem g_Memory_is_live (S : Sit K mg) : U.GMt P w K mg base CX0 (He.ga K "Memory") "is_live" 4 ["self", "handle"] (sp_Memory_is_live K) := by
  obtain ⟨fd, F⟩ := S.says.def_ 11 (d := dd_Memory_is_live) rfl
  have _i : SitK K := ⟨⟨mg, S⟩⟩
  have ok : FnOk P w K mg base CX0 4 _ fd ["self", "handle"] (sp_Memory_is_live K) := F.ok (k := 3) sc_Memory_is_live (fun _ _ _ _ h => U.S2.len h) (fun cdv A outer s H vs Q E hr h => ⟨t_Memory_is_live K, PSs.nox ?_, U.S2.use (P := fun vs => t_Memory_is_live K { nx := fun _ H1 => Q .non H1, rt := Q } (start n_Memory_is_live vs) H) h (fun a b h => pure_Memory_is_live h)⟩)
  · exact ⟨f_cls_Memory S, _, fd, ok, F.bindsN (fun _ _ _ _ _ _ us hl => match us, hl with | [_, _], _ => rfl), f_meth_Memory_is_live S⟩
  · have nd : n_Memory_is_live.Nodup := sc_Memory_is_live.nd
    exact (pss_cons (ps_if (PW.pt (pw_or (pt_not (U.pt_any (U.pe_fn (g_is_handle S) (hr.mono (by decide)) pass0 (pa_cons (pv 1) pa_nil)))) (pw_or1 (pt_cmpR U.op_ge (pe_ix (U.ix_any (hu_of hr)) (pv 1) pe_int (fun _ _ => rfl)) (pe_callB U.c_len (by rfl) (f_free_len S) (by decide +kernel) (pa_cons (pe_fld (pv 0) rfl) pa_nil)) (nomark _))))) (pss_one (ps_ret pe_bl)) pss_nil)
    (pss_one (ps_ret (pe_and (pe_fld (pe_ix (U.ix_any (hu_of hr)) (pe_fld (pv 0) rfl) (pe_ix (U.ix_any (hu_of hr)) (pv 1) pe_int (fun _ _ => rfl)) (fun _ _ => rfl)) rfl) (pe_one (pe_cmpR (U.op_eq hr.units) (pe_fld (pe_ix (U.ix_any (hu_of hr)) (pe_fld (pv 0) rfl) (pe_ix (U.ix_any (hu_of hr)) (pv 1) pe_int (fun _ _ => rfl)) (fun _ _ => rfl)) rfl) (pe_ix (U.ix_any (hu_of hr)) (pv 1) pe_int (fun _ _ => rfl)) (nomark _)))))))
theorem sc_Memory__entry : FnScope n_Memory__entry ["self", "handle"] (defScope s_Memory__entry) := ⟨rfl, rfl, rfl, by decide +kernel, rfl, by decide +kernel, by decide +kernel⟩
theorem g_Memory__entry (S : Sit K mg) : U.GMt P w K mg base CX0 (He.ga K "Memory") "_entry" 5 ["self", "handle"] (sp_Memory__entry K) := by
  obtain ⟨fd, F⟩ := S.says.def_ 12 (d := dd_Memory__entry) rfl
  have _i : SitK K := ⟨⟨mg, S⟩⟩
  have ok : FnOk P w K mg base CX0 5 _ fd ["self", "handle"] (sp_Memory__entry K) := F.ok (k := 4) sc_Memory__entry (fun _ _ _ _ h => U.S2.len h) (fun cdv A outer s H vs Q E hr h => ⟨t_Memory__entry K, PSs.nox ?_, U.S2.use (P := fun vs => t_Memory__entry K { nx := fun _ H1 => Q .non H1, rt := Q } (start n_Memory__entry vs) H) h (fun a b h => pure_Memory__entry h)⟩)
  · exact ⟨f_cls_Memory S, _, fd, ok, F.bindsN (fun _ _ _ _ _ _ us hl => match us, hl with | [_, _], _ => rfl), f_meth_Memory__entry S⟩
  · have nd : n_Memory__entry.Nodup := sc_Memory__entry.nd
    exact (pss_cons (ps_if (pt_not (U.pt_any (U.pe_mt (g_Memory_is_live S) (hr.mono (by decide)) pass0 (pv 0) (pa_cons (pv 1) pa_nil)))) (pss_one ps_never) pss_nil)
    (pss_one (ps_ret (pe_ix (U.ix_any (hu_of hr)) (pe_fld (pv 0) rfl) (pe_ix (U.ix_any (hu_of hr)) (pv 1) pe_int (fun _ _ => rfl)) (fun _ _ => rfl)))))
theorem sc_Memory_handle_at : FnScope n_Memory_handle_at ["self", "slot"] (defScope s_Memory_handle_at) := ⟨rfl, rfl, rfl, by decide +kernel, rfl, by decide +kernel, by decide +kernel⟩
theorem g_Memory_handle_at (S : Sit K mg) : U.GMt P w K mg base CX0 (He.ga K "Memory") "handle_at" 1 ["self", "slot"] (sp_Memory_handle_at K) := by
  obtain ⟨fd, F⟩ := S.says.def_ 13 (d := dd_Memory_handle_at) rfl
  have _i : SitK K := ⟨⟨mg, S⟩⟩
  have ok : FnOk P w K mg base CX0 1 _ fd ["self", "slot"] (sp_Memory_handle_at K) := F.ok (k := 0) sc_Memory_handle_at (fun _ _ _ _ h => U.S2.len h) (fun cdv A outer s H vs Q E hr h => ⟨t_Memory_handle_at K, PSs.nox ?_, U.S2.use (P := fun vs => t_Memory_handle_at K { nx := fun _ H1 => Q .non H1, rt := Q } (start n_Memory_handle_at vs) H) h (fun a b h => pure_Memory_handle_at h)⟩)
  · exact ⟨f_cls_Memory S, _, fd, ok, F.bindsN (fun _ _ _ _ _ _ us hl => match us, hl with | [_, _], _ => rfl), f_meth_Memory_handle_at S⟩
  · have nd : n_Memory_handle_at.Nodup := sc_Memory_handle_at.nd
    exact (pss_cons (ps_set (i := 2) nd rfl (Or.inl rfl) (pe_ix (U.ix_any (hu_of hr)) (pe_fld (pv 0) rfl) (pv 1) (fun _ _ => rfl)))
    (pss_one (ps_ret (pe_ifExp (U.pt_any (pe_fld (pv 2) rfl)) (pe_tup (pa_cons (pv 1) (pa_cons (pe_fld (pv 2) rfl) pa_nil))) pe_non))))
theorem sc_Memory_fits : FnScope n_Memory_fits ["self", "size"] (defScope s_Memory_fits) := ⟨rfl, rfl, rfl, by decide +kernel, rfl, by decide +kernel, by decide +kernel⟩
theorem g_Memory_fits (S : Sit K mg) : U.GMt P w K mg base CX0 (He.ga K "Memory") "fits" 2 ["self", "size"] (sp_Memory_fits K) := by
  obtain ⟨fd, F⟩ := S.says.def_ 14 (d := dd_Memory_fits) rfl
  have _i : SitK K := ⟨⟨mg, S⟩⟩
  have ok : FnOk P w K mg base CX0 2 _ fd ["self", "size"] (sp_Memory_fits K) := F.ok (k := 1) sc_Memory_fits (fun _ _ _ _ h => U.S2.len h) (fun cdv A outer s H vs Q E hr h => ⟨t_Memory_fits K, PSs.nox ?_, U.S2.use (P := fun vs => t_Memory_fits K { nx := fun _ H1 => Q .non H1, rt := Q } (start n_Memory_fits vs) H) h (fun a b h => pure_Memory_fits h)⟩)
  · exact ⟨f_cls_Memory S, _, fd, ok, F.bindsN (fun _ _ _ _ _ _ us hl => match us, hl with | [_, _], _ => rfl), f_meth_Memory_fits S⟩
  · have nd : n_Memory_fits.Nodup := sc_Memory_fits.nd
    exact (pss_one (ps_ret (pe_and (pe_cmpR U.op_le (pe_op U.op_add (pe_fld (pv 0) rfl) (pv 1)) (pe_callB U.c_len (by rfl) (f_free_len S) (by decide +kernel) (pa_cons (pe_fld (pv 0) rfl) pa_nil)) (nomark _)) (pe_one (pe_cmpR (U.op_lt hr.units0) (U.pe_mt0 (g_Memory_live S) (hr.mono (by decide)) pass0 (pv 0)) (pe_callB U.c_len (by rfl) (f_free_len S) (by decide +kernel) (pa_cons (pe_fld (pv 0) rfl) pa_nil)) (nomark _))))))
theorem sc_Memory_reserve : FnScope n_Memory_reserve ["self", "size"] (defScope s_Memory_reserve) := ⟨rfl, rfl, rfl, by decide +kernel, rfl, by decide +kernel, by decide +kernel⟩
theorem g_Memory_reserve (S : Sit K mg) : U.GMt P w K mg base (L2.CX P w) (He.ga K "Memory") "reserve" 3 ["self", "size"] (sp_Memory_reserve K) := by
  obtain ⟨fd, F⟩ := S.says.def_ 15 (d := dd_Memory_reserve) rfl
  have _i : SitK K := ⟨⟨mg, S⟩⟩
  have ok : FnOk P w K mg base (L2.CX P w) 3 _ fd ["self", "size"] (sp_Memory_reserve K) := F.ok (k := 2) sc_Memory_reserve (fun _ _ _ _ h => U.S2.len h) (fun cdv A outer s H vs Q E hr h => ⟨t_Memory_reserve K (fun c d _ H => E c d H), ?_, U.S2.use (P := fun vs => t_Memory_reserve K (fun c d _ H => E c d H) { nx := fun _ H1 => Q .non H1, rt := Q } (start n_Memory_reserve vs) H) h (fun a b h => pure_Memory_reserve h)⟩)
  · exact ⟨f_cls_Memory S, _, fd, ok, F.bindsN (fun _ _ _ _ _ _ us hl => match us, hl with | [_, _], _ => rfl), f_meth_Memory_reserve S⟩
  · have nd : n_Memory_reserve.Nodup := sc_Memory_reserve.nd
    exact (pss_cons (ps_if (pt_not (U.pt_any (U.pe_mt (g_Memory_fits S) (hr.mono (by decide)) pass0 (pv 0) (pa_cons (pv 1) pa_nil)))) (pss_one (ps_raise rfl (takes_of rfl rfl rfl rfl) (U.pmk_own0 (f_exc_NoRoom S) (f_glo_NoRoom S)))) pss_nil)
    (pss_cons (ps_set (i := 2) nd rfl (Or.inl rfl) (pe_ix (U.ix_any (hu_of hr)) (pe_lc (own := [("index", 4), ("entry", 3)]) rfl nd (pi_enum (by rfl) (f_free_enumerate S) (pa_cons (pe_fld (pv 0) rfl) pa_nil)) (blkOk_by (N := n_Memory_reserve) (sc := defScope s_Memory_reserve) (by decide +kernel)) (fun _ _ _ _ _ => (pg_tup rfl (pgs_cons (pg_name (i := 4) nd rfl (Or.inl rfl)) (pgs_cons (pg_name (i := 3) nd rfl (Or.inl rfl)) pgs_nil)))) (fun _ _ _ _ _ => (pts_one (pt_not (U.pt_any (pe_fld (pv 3) rfl))))) (fun _ _ _ _ _ => (pv 4))) pe_int (fun _ _ => rfl)))
    (pss_cons (ps_set (i := 3) nd rfl (Or.inl rfl) (pe_ix (U.ix_any (hu_of hr)) (pe_fld (pv 0) rfl) (pv 2) (fun _ _ => rfl)))
    (pss_cons (ps_fld (pv 3) pe_bl rfl)
    (pss_cons (ps_fld (pv 3) (pv 1) rfl)
    (pss_cons (ps_fld (pv 3) (pe_fld (pv 0) rfl) rfl)
    (pss_cons (ps_fld (pv 3) pe_int rfl)
    (pss_cons (ps_fld (pv 3) pe_non rfl)
    (pss_cons (ps_fld (pv 3) pe_int rfl)
    (pss_cons (ps_fld (pv 3) pe_int rfl)
    (pss_cons (ps_fld (pv 3) pe_bl rfl)
    (pss_cons (ps_fldaug (pv 0) (pv 1) in_add)
    (pss_one (ps_ret (pe_tup (pa_cons (pv 2) (pa_cons (pe_fld (pv 3) rfl) pa_nil)))))))))))))))))
theorem sc_Memory__spot : FnScope n_Memory__spot ["self", "entry", "k"] (defScope s_Memory__spot) := ⟨rfl, rfl, rfl, by decide +kernel, rfl, by decide +kernel, by decide +kernel⟩
theorem g_Memory__spot (S : Sit K mg) : U.GMt P w K mg base CX0 (He.ga K "Memory") "_spot" 1 ["self", "entry", "k"] (sp_Memory__spot K) := by
  obtain ⟨fd, F⟩ := S.says.def_ 16 (d := dd_Memory__spot) rfl
  have _i : SitK K := ⟨⟨mg, S⟩⟩
  have ok : FnOk P w K mg base CX0 1 _ fd ["self", "entry", "k"] (sp_Memory__spot K) := F.ok (k := 0) sc_Memory__spot (fun _ _ _ _ h => U.S3.len h) (fun cdv A outer s H vs Q E hr h => ⟨t_Memory__spot K, PSs.nox ?_, U.S3.use (P := fun vs => t_Memory__spot K { nx := fun _ H1 => Q .non H1, rt := Q } (start n_Memory__spot vs) H) h (fun a b c h => pure_Memory__spot h)⟩)
  · exact ⟨f_cls_Memory S, _, fd, ok, F.bindsN (fun _ _ _ _ _ _ us hl => match us, hl with | [_, _, _], _ => rfl), f_meth_Memory__spot S⟩
  · have nd : n_Memory__spot.Nodup := sc_Memory__spot.nd
    exact (pss_one (ps_ret (pe_ifExp (PW.pt (pw_and (pt_cmpR U.op_notN (pe_fld (pv 1) rfl) pe_non (nomark _)) (pw_and1 (pt_cmpR (U.op_lt hr.units0) (pv 2) (pe_fld (pv 1) rfl) (nomark _))))) (pe_op U.op_add (pe_fld (pv 1) rfl) (pv 2)) (pe_op U.op_add (pe_fld (pv 1) rfl) (pv 2)))))
theorem sc_Memory_fill : FnScope n_Memory_fill ["self", "handle"] (defScope s_Memory_fill) := ⟨rfl, rfl, rfl, by decide +kernel, rfl, by decide +kernel, by decide +kernel⟩
theorem g_Memory_fill (S : Sit K mg) : U.GMt P w K mg base CX0 (He.ga K "Memory") "fill" 6 ["self", "handle"] (sp_Memory_fill K) := by
  obtain ⟨fd, F⟩ := S.says.def_ 17 (d := dd_Memory_fill) rfl
  have _i : SitK K := ⟨⟨mg, S⟩⟩
  have ok : FnOk P w K mg base CX0 6 _ fd ["self", "handle"] (sp_Memory_fill K) := F.ok (k := 5) sc_Memory_fill (fun _ _ _ _ h => U.S2.len h) (fun cdv A outer s H vs Q E hr h => ⟨t_Memory_fill K, PSs.nox ?_, U.S2.use (P := fun vs => t_Memory_fill K { nx := fun _ H1 => Q .non H1, rt := Q } (start n_Memory_fill vs) H) h (fun a b h => pure_Memory_fill h)⟩)
  · exact ⟨f_cls_Memory S, _, fd, ok, F.bindsN (fun _ _ _ _ _ _ us hl => match us, hl with | [_, _], _ => rfl), f_meth_Memory_fill S⟩
  · have nd : n_Memory_fill.Nodup := sc_Memory_fill.nd
    exact (pss_cons (ps_set (i := 2) nd rfl (Or.inl rfl) (U.pe_mt (g_Memory__entry S) (hr.mono (by decide)) pass0 (pv 0) (pa_cons (pv 1) pa_nil)))
    (pss_cons (ps_if (pt_cmpR (U.op_eq hr.units) (pe_fld (pv 2) rfl) (pe_fld (pv 2) rfl) (nomark _)) (pss_one ps_never) pss_nil)
    (pss_cons (ps_asg pe_non (pg_sub (pe_fld (pv 0) rfl) (U.pe_mt (g_Memory__spot S) (hr.mono (by decide)) pass0 (pv 0) (pa_cons (pv 2) (pa_cons (pe_fld (pv 2) rfl) pa_nil))) (U.set_any (hu_of hr))))
    (pss_cons (ps_fldaug (pv 2) pe_int in_add)
    (pss_one (ps_ret (pe_cmpR (U.op_eq hr.units) (pe_fld (pv 2) rfl) (pe_fld (pv 2) rfl) (nomark _))))))))
theorem sc_Memory_size : FnScope n_Memory_size ["self", "handle"] (defScope s_Memory_size) := ⟨rfl, rfl, rfl, by decide +kernel, rfl, by decide +kernel, by decide +kernel⟩
theorem g_Memory_size (S : Sit K mg) : U.GMt P w K mg base CX0 (He.ga K "Memory") "size" 6 ["self", "handle"] (sp_Memory_size K) := by
  obtain ⟨fd, F⟩ := S.says.def_ 18 (d := dd_Memory_size) rfl
  have _i : SitK K := ⟨⟨mg, S⟩⟩
  have ok : FnOk P w K mg base CX0 6 _ fd ["self", "handle"] (sp_Memory_size K) := F.ok (k := 5) sc_Memory_size (fun _ _ _ _ h => U.S2.len h) (fun cdv A outer s H vs Q E hr h => ⟨t_Memory_size K, PSs.nox ?_, U.S2.use (P := fun vs => t_Memory_size K { nx := fun _ H1 => Q .non H1, rt := Q } (start n_Memory_size vs) H) h (fun a b h => pure_Memory_size h)⟩)
  · exact ⟨f_cls_Memory S, _, fd, ok, F.bindsN (fun _ _ _ _ _ _ us hl => match us, hl with | [_, _], _ => rfl), f_meth_Memory_size S⟩
  · have nd : n_Memory_size.Nodup := sc_Memory_size.nd
    exact (pss_one (ps_ret (pe_fld (U.pe_mt (g_Memory__entry S) (hr.mono (by decide)) pass0 (pv 0) (pa_cons (pv 1) pa_nil)) rfl)))
theorem sc_Memory_read : FnScope n_Memory_read ["self", "handle", "k"] (defScope s_Memory_read) := ⟨rfl, rfl, rfl, by decide +kernel, rfl, by decide +kernel, by decide +kernel⟩
theorem g_Memory_read (S : Sit K mg) : U.GMt P w K mg base CX0 (He.ga K "Memory") "read" 6 ["self", "handle", "k"] (sp_Memory_read K) := by
  obtain ⟨fd, F⟩ := S.says.def_ 19 (d := dd_Memory_read) rfl
  have _i : SitK K := ⟨⟨mg, S⟩⟩
  have ok : FnOk P w K mg base CX0 6 _ fd ["self", "handle", "k"] (sp_Memory_read K) := F.ok (k := 5) sc_Memory_read (fun _ _ _ _ h => U.S3.len h) (fun cdv A outer s H vs Q E hr h => ⟨t_Memory_read K, PSs.nox ?_, U.S3.use (P := fun vs => t_Memory_read K { nx := fun _ H1 => Q .non H1, rt := Q } (start n_Memory_read vs) H) h (fun a b c h => pure_Memory_read h)⟩)
  · exact ⟨f_cls_Memory S, _, fd, ok, F.bindsN (fun _ _ _ _ _ _ us hl => match us, hl with | [_, _, _], _ => rfl), f_meth_Memory_read S⟩
  · have nd : n_Memory_read.Nodup := sc_Memory_read.nd
    exact (pss_cons (ps_set (i := 3) nd rfl (Or.inl rfl) (U.pe_mt (g_Memory__entry S) (hr.mono (by decide)) pass0 (pv 0) (pa_cons (pv 1) pa_nil)))
    (pss_cons (ps_if (PW.pt (pw_or (pt_not (U.pt_any (U.pe_fn (g_is_count S) (hr.mono (by decide)) pass0 (pa_cons (pv 2) pa_nil)))) (pw_or1 (pt_cmpR U.op_ge (pv 2) (pe_fld (pv 3) rfl) (nomark _))))) (pss_one ps_never) pss_nil)
    (pss_one (ps_ret (pe_ifExp (pt_cmpR (U.op_lt hr.units0) (pv 2) (pe_fld (pv 3) rfl) (nomark _)) (pe_ix (U.ix_any (hu_of hr)) (pe_fld (pv 0) rfl) (U.pe_mt (g_Memory__spot S) (hr.mono (by decide)) pass0 (pv 0) (pa_cons (pv 3) (pa_cons (pv 2) pa_nil))) (fun _ _ => rfl)) pe_non)))))
theorem sc_Memory_write : FnScope n_Memory_write ["self", "handle", "k", "value"] (defScope s_Memory_write) := ⟨rfl, rfl, rfl, by decide +kernel, rfl, by decide +kernel, by decide +kernel⟩
theorem g_Memory_write (S : Sit K mg) : U.GMt P w K mg base CX0 (He.ga K "Memory") "write" 6 ["self", "handle", "k", "value"] (sp_Memory_write K) := by
  obtain ⟨fd, F⟩ := S.says.def_ 20 (d := dd_Memory_write) rfl
  have _i : SitK K := ⟨⟨mg, S⟩⟩
  have ok : FnOk P w K mg base CX0 6 _ fd ["self", "handle", "k", "value"] (sp_Memory_write K) := F.ok (k := 5) sc_Memory_write (fun _ _ _ _ h => U.S4.len h) (fun cdv A outer s H vs Q E hr h => ⟨t_Memory_write K, PSs.nox ?_, U.S4.use (P := fun vs => t_Memory_write K { nx := fun _ H1 => Q .non H1, rt := Q } (start n_Memory_write vs) H) h (fun a b c d h => pure_Memory_write h)⟩)
  · exact ⟨f_cls_Memory S, _, fd, ok, F.bindsN (fun _ _ _ _ _ _ us hl => match us, hl with | [_, _, _, _], _ => rfl), f_meth_Memory_write S⟩
  · have nd : n_Memory_write.Nodup := sc_Memory_write.nd
    exact (pss_cons (ps_set (i := 4) nd rfl (Or.inl rfl) (U.pe_mt (g_Memory__entry S) (hr.mono (by decide)) pass0 (pv 0) (pa_cons (pv 1) pa_nil)))
    (pss_cons (ps_if (PW.pt (pw_or (pt_not (U.pt_any (U.pe_fn (g_is_count S) (hr.mono (by decide)) pass0 (pa_cons (pv 2) pa_nil)))) (pw_or1 (pt_cmpR U.op_ge (pv 2) (pe_fld (pv 4) rfl) (nomark _))))) (pss_one ps_never) pss_nil)
    (pss_cons (ps_if (pt_not (U.pt_any (U.pe_fn (g_is_value S) (hr.mono (by decide)) pass0 (pa_cons (pv 3) pa_nil)))) (pss_one ps_never) pss_nil)
    (pss_cons (ps_set (i := 5) nd rfl (Or.inl rfl) (U.pe_mt (g_Memory__spot S) (hr.mono (by decide)) pass0 (pv 0) (pa_cons (pv 4) (pa_cons (pv 2) pa_nil))))
    (pss_cons (ps_set (i := 6) nd rfl (Or.inl rfl) (pe_ix (U.ix_any (hu_of hr)) (pe_fld (pv 0) rfl) (pv 5) (fun _ _ => rfl)))
    (pss_cons (ps_asg (pv 3) (pg_sub (pe_fld (pv 0) rfl) (pv 5) (U.set_any (hu_of hr))))
    (pss_one (ps_ret (pv 6)))))))))
theorem sc_Memory_free : FnScope n_Memory_free ["self", "slot"] (defScope s_Memory_free) := ⟨rfl, rfl, rfl, by decide +kernel, rfl, by decide +kernel, by decide +kernel⟩
theorem g_Memory_free (S : Sit K mg) : U.GMt P w K mg base CX0 (He.ga K "Memory") "free" 4 ["self", "slot"] (sp_Memory_free K) := by
  obtain ⟨fd, F⟩ := S.says.def_ 21 (d := dd_Memory_free) rfl
  have _i : SitK K := ⟨⟨mg, S⟩⟩
  have ok : FnOk P w K mg base CX0 4 _ fd ["self", "slot"] (sp_Memory_free K) := F.ok (k := 3) sc_Memory_free (fun _ _ _ _ h => U.S2.len h) (fun cdv A outer s H vs Q E hr h => ⟨t_Memory_free K, PSs.nox ?_, U.S2.use (P := fun vs => t_Memory_free K { nx := fun _ H1 => Q .non H1, rt := Q } (start n_Memory_free vs) H) h (fun a b h => pure_Memory_free h)⟩)
  · exact ⟨f_cls_Memory S, _, fd, ok, F.bindsN (fun _ _ _ _ _ _ us hl => match us, hl with | [_, _], _ => rfl), f_meth_Memory_free S⟩
  · have nd : n_Memory_free.Nodup := sc_Memory_free.nd
    exact (pss_cons (ps_set (i := 2) nd rfl (Or.inl rfl) (U.pe_mt (g_Memory__entry_at S) (hr.mono (by decide)) pass0 (pv 0) (pa_cons (pv 1) pa_nil)))
    (pss_cons (ps_if (pt_cmpR U.op_notN (pe_fld (pv 2) rfl) pe_non (nomark _)) (pss_one ps_never) pss_nil)
    (pss_cons (ps_fld (pv 2) pe_bl rfl)
    (pss_one (ps_fldaug (pv 2) pe_int in_add)))))
theorem sc_Memory_start : FnScope n_Memory_start ["self", "slot"] (defScope s_Memory_start) := ⟨rfl, rfl, rfl, by decide +kernel, rfl, by decide +kernel, by decide +kernel⟩
theorem g_Memory_start (S : Sit K mg) : U.GMt P w K mg base CX0 (He.ga K "Memory") "start" 4 ["self", "slot"] (sp_Memory_start K) := by
  obtain ⟨fd, F⟩ := S.says.def_ 22 (d := dd_Memory_start) rfl
  have _i : SitK K := ⟨⟨mg, S⟩⟩
  have ok : FnOk P w K mg base CX0 4 _ fd ["self", "slot"] (sp_Memory_start K) := F.ok (k := 3) sc_Memory_start (fun _ _ _ _ h => U.S2.len h) (fun cdv A outer s H vs Q E hr h => ⟨t_Memory_start K, PSs.nox ?_, U.S2.use (P := fun vs => t_Memory_start K { nx := fun _ H1 => Q .non H1, rt := Q } (start n_Memory_start vs) H) h (fun a b h => pure_Memory_start h)⟩)
  · exact ⟨f_cls_Memory S, _, fd, ok, F.bindsN (fun _ _ _ _ _ _ us hl => match us, hl with | [_, _], _ => rfl), f_meth_Memory_start S⟩
  · have nd : n_Memory_start.Nodup := sc_Memory_start.nd
    exact (pss_one (ps_ret (pe_fld (U.pe_mt (g_Memory__entry_at S) (hr.mono (by decide)) pass0 (pv 0) (pa_cons (pv 1) pa_nil)) rfl)))
theorem sc_Memory_place : FnScope n_Memory_place ["self", "handle", "k"] (defScope s_Memory_place) := ⟨rfl, rfl, rfl, by decide +kernel, rfl, by decide +kernel, by decide +kernel⟩
theorem g_Memory_place (S : Sit K mg) : U.GMt P w K mg base CX0 (He.ga K "Memory") "place" 6 ["self", "handle", "k"] (sp_Memory_place K) := by
  obtain ⟨fd, F⟩ := S.says.def_ 23 (d := dd_Memory_place) rfl
  have _i : SitK K := ⟨⟨mg, S⟩⟩
  have ok : FnOk P w K mg base CX0 6 _ fd ["self", "handle", "k"] (sp_Memory_place K) := F.ok (k := 5) sc_Memory_place (fun _ _ _ _ h => U.S3.len h) (fun cdv A outer s H vs Q E hr h => ⟨t_Memory_place K, PSs.nox ?_, U.S3.use (P := fun vs => t_Memory_place K { nx := fun _ H1 => Q .non H1, rt := Q } (start n_Memory_place vs) H) h (fun a b c h => pure_Memory_place h)⟩)
  · exact ⟨f_cls_Memory S, _, fd, ok, F.bindsN (fun _ _ _ _ _ _ us hl => match us, hl with | [_, _, _], _ => rfl), f_meth_Memory_place S⟩
  · have nd : n_Memory_place.Nodup := sc_Memory_place.nd
    exact (pss_cons (ps_set (i := 3) nd rfl (Or.inl rfl) (U.pe_mt (g_Memory__entry S) (hr.mono (by decide)) pass0 (pv 0) (pa_cons (pv 1) pa_nil)))
    (pss_cons (ps_if (PW.pt (pw_or (pt_not (U.pt_any (U.pe_fn (g_is_count S) (hr.mono (by decide)) pass0 (pa_cons (pv 2) pa_nil)))) (pw_or1 (pt_cmpR U.op_ge (pv 2) (pe_fld (pv 3) rfl) (nomark _))))) (pss_one ps_never) pss_nil)
    (pss_one (ps_ret (U.pe_mt (g_Memory__spot S) (hr.mono (by decide)) pass0 (pv 0) (pa_cons (pv 3) (pa_cons (pv 2) pa_nil)))))))
theorem sc_Memory_moving : FnScope n_Memory_moving ["self"] (defScope s_Memory_moving) := ⟨rfl, rfl, rfl, by decide +kernel, rfl, by decide +kernel, by decide +kernel⟩
theorem g_Memory_moving (S : Sit K mg) : U.GMt P w K mg base CX0 (He.ga K "Memory") "moving" 1 ["self"] (sp_Memory_moving K) := by
  obtain ⟨fd, F⟩ := S.says.def_ 24 (d := dd_Memory_moving) rfl
  have _i : SitK K := ⟨⟨mg, S⟩⟩
  have ok : FnOk P w K mg base CX0 1 _ fd ["self"] (sp_Memory_moving K) := F.ok (k := 0) sc_Memory_moving (fun _ _ _ _ h => U.S1.len h) (fun cdv A outer s H vs Q E hr h => ⟨t_Memory_moving K, PSs.nox ?_, U.S1.use (P := fun vs => t_Memory_moving K { nx := fun _ H1 => Q .non H1, rt := Q } (start n_Memory_moving vs) H) h (fun a h => pure_Memory_moving h)⟩)
  · exact ⟨f_cls_Memory S, _, fd, ok, F.bindsN (fun _ _ _ _ _ _ us hl => match us, hl with | [_], _ => rfl), f_meth_Memory_moving S⟩
  · have nd : n_Memory_moving.Nodup := sc_Memory_moving.nd
    exact (pss_cons (ps_for PassesOwn.never rfl (pi_enum (by rfl) (f_free_enumerate S) (pa_cons (pe_fld (pv 0) rfl) pa_nil)) (pg_tup rfl (pgs_cons (pg_name (i := 1) nd rfl (Or.inl rfl)) (pgs_cons (pg_name (i := 2) nd rfl (Or.inl rfl)) pgs_nil))) (pss_one (ps_if (PW.pt (pw_and (U.pt_any (pe_fld (pv 2) rfl)) (pw_and1 (pt_cmpR U.op_notN (pe_fld (pv 2) rfl) pe_non (nomark _))))) (pss_one (ps_ret (pv 1))) pss_nil)))
    (pss_one (ps_ret pe_non)))
theorem sc_Memory_begin_move : FnScope n_Memory_begin_move ["self", "slot", "to"] (defScope s_Memory_begin_move) := ⟨rfl, rfl, rfl, by decide +kernel, rfl, by decide +kernel, by decide +kernel⟩
theorem g_Memory_begin_move (S : Sit K mg) : U.GMt P w K mg base CX0 (He.ga K "Memory") "begin_move" 4 ["self", "slot", "to"] (sp_Memory_begin_move K) := by
  obtain ⟨fd, F⟩ := S.says.def_ 25 (d := dd_Memory_begin_move) rfl
  have _i : SitK K := ⟨⟨mg, S⟩⟩
  have ok : FnOk P w K mg base CX0 4 _ fd ["self", "slot", "to"] (sp_Memory_begin_move K) := F.ok (k := 3) sc_Memory_begin_move (fun _ _ _ _ h => U.S3.len h) (fun cdv A outer s H vs Q E hr h => ⟨t_Memory_begin_move K, PSs.nox ?_, U.S3.use (P := fun vs => t_Memory_begin_move K { nx := fun _ H1 => Q .non H1, rt := Q } (start n_Memory_begin_move vs) H) h (fun a b c h => pure_Memory_begin_move h)⟩)
  · exact ⟨f_cls_Memory S, _, fd, ok, F.bindsN (fun _ _ _ _ _ _ us hl => match us, hl with | [_, _, _], _ => rfl), f_meth_Memory_begin_move S⟩
  · have nd : n_Memory_begin_move.Nodup := sc_Memory_begin_move.nd
    exact (pss_cons (ps_set (i := 3) nd rfl (Or.inr rfl) (U.pe_mt (g_Memory__entry_at S) (hr.mono (by decide)) pass0 (pv 0) (pa_cons (pv 1) pa_nil)))
    (pss_cons (ps_if (PW.pt (pw_or (pt_cmpR U.op_notN (U.pe_mt0 (g_Memory_moving S) (hr.mono (by decide)) pass0 (pv 0)) pe_non (nomark _)) (pw_or (pt_not (U.pt_any (U.pe_fn (g_is_count S) (hr.mono (by decide)) pass0 (pa_cons (pv 2) pa_nil)))) (pw_or1 (pt_cmpR U.op_ge (pv 2) (pe_fld (pv 3) rfl) (nomark _)))))) (pss_one ps_never) pss_nil)
    (pss_cons (ps_if (U.pt_any (pe_callB (U.c_any rfl) (by rfl) (f_free_any S) (by decide +kernel) (pa_cons (pe_lc (own := [("other", 4)]) rfl nd (U.pi_seq (pe_fld (pv 0) rfl)) (blkOk_by (N := n_Memory_begin_move) (sc := defScope s_Memory_begin_move) (by decide +kernel)) (fun _ _ _ _ _ => (pg_name (i := 4) nd rfl (Or.inl rfl))) (fun _ _ _ _ _ => pts_nil) (fun _ _ _ _ _ => (pe_and (pe_fld (pv 4) rfl) (pe_and (pe_cmpR (U.op_lt hr.units0) (pe_fld (pv 4) rfl) (pe_fld (pv 3) rfl) (nomark _)) (pe_one (pe_cmpR U.op_gt (U.pe_mt0 (g_Entry_high S) (hr.mono (by decide)) pass0 (pv 4)) (pv 2) (nomark _))))))) pa_nil))) (pss_one ps_never) pss_nil)
    (pss_cons (ps_fld (pv 3) (pv 2) rfl)
    (pss_one (ps_fld (pv 3) pe_int rfl))))))
theorem sc_Memory_copy_cell : FnScope n_Memory_copy_cell ["self", "slot"] (defScope s_Memory_copy_cell) := ⟨rfl, rfl, rfl, by decide +kernel, rfl, by decide +kernel, by decide +kernel⟩
theorem g_Memory_copy_cell (S : Sit K mg) : U.GMt P w K mg base CX0 (He.ga K "Memory") "copy_cell" 4 ["self", "slot"] (sp_Memory_copy_cell K) := by
  obtain ⟨fd, F⟩ := S.says.def_ 26 (d := dd_Memory_copy_cell) rfl
  have _i : SitK K := ⟨⟨mg, S⟩⟩
  have ok : FnOk P w K mg base CX0 4 _ fd ["self", "slot"] (sp_Memory_copy_cell K) := F.ok (k := 3) sc_Memory_copy_cell (fun _ _ _ _ h => U.S2.len h) (fun cdv A outer s H vs Q E hr h => ⟨t_Memory_copy_cell K, PSs.nox ?_, U.S2.use (P := fun vs => t_Memory_copy_cell K { nx := fun _ H1 => Q .non H1, rt := Q } (start n_Memory_copy_cell vs) H) h (fun a b h => pure_Memory_copy_cell h)⟩)
  · exact ⟨f_cls_Memory S, _, fd, ok, F.bindsN (fun _ _ _ _ _ _ us hl => match us, hl with | [_, _], _ => rfl), f_meth_Memory_copy_cell S⟩
  · have nd : n_Memory_copy_cell.Nodup := sc_Memory_copy_cell.nd
    exact (pss_cons (ps_set (i := 2) nd rfl (Or.inl rfl) (U.pe_mt (g_Memory__entry_at S) (hr.mono (by decide)) pass0 (pv 0) (pa_cons (pv 1) pa_nil)))
    (pss_cons (ps_if (PW.pt (pw_or (pt_cmpR U.op_isN (pe_fld (pv 2) rfl) pe_non (nomark _)) (pw_or1 (pt_cmpR (U.op_eq hr.units) (pe_fld (pv 2) rfl) (pe_fld (pv 2) rfl) (nomark _))))) (pss_one ps_never) pss_nil)
    (pss_cons (ps_asg (pe_ix (U.ix_any (hu_of hr)) (pe_fld (pv 0) rfl) (pe_op U.op_add (pe_fld (pv 2) rfl) (pe_fld (pv 2) rfl)) (fun _ _ => rfl)) (pg_sub (pe_fld (pv 0) rfl) (pe_op U.op_add (pe_fld (pv 2) rfl) (pe_fld (pv 2) rfl)) (U.set_any (hu_of hr))))
    (pss_cons (ps_fldaug (pv 2) pe_int in_add)
    (pss_one (ps_ret (pe_cmpR (U.op_eq hr.units) (pe_fld (pv 2) rfl) (pe_fld (pv 2) rfl) (nomark _))))))))
theorem sc_Memory_turn : FnScope n_Memory_turn ["self", "slot"] (defScope s_Memory_turn) := ⟨rfl, rfl, rfl, by decide +kernel, rfl, by decide +kernel, by decide +kernel⟩
theorem g_Memory_turn (S : Sit K mg) : U.GMt P w K mg base CX0 (He.ga K "Memory") "turn" 4 ["self", "slot"] (sp_Memory_turn K) := by
  obtain ⟨fd, F⟩ := S.says.def_ 27 (d := dd_Memory_turn) rfl
  have _i : SitK K := ⟨⟨mg, S⟩⟩
  have ok : FnOk P w K mg base CX0 4 _ fd ["self", "slot"] (sp_Memory_turn K) := F.ok (k := 3) sc_Memory_turn (fun _ _ _ _ h => U.S2.len h) (fun cdv A outer s H vs Q E hr h => ⟨t_Memory_turn K, PSs.nox ?_, U.S2.use (P := fun vs => t_Memory_turn K { nx := fun _ H1 => Q .non H1, rt := Q } (start n_Memory_turn vs) H) h (fun a b h => pure_Memory_turn h)⟩)
  · exact ⟨f_cls_Memory S, _, fd, ok, F.bindsN (fun _ _ _ _ _ _ us hl => match us, hl with | [_, _], _ => rfl), f_meth_Memory_turn S⟩
  · have nd : n_Memory_turn.Nodup := sc_Memory_turn.nd
    exact (pss_cons (ps_set (i := 2) nd rfl (Or.inl rfl) (U.pe_mt (g_Memory__entry_at S) (hr.mono (by decide)) pass0 (pv 0) (pa_cons (pv 1) pa_nil)))
    (pss_cons (ps_if (PW.pt (pw_or (pt_cmpR U.op_isN (pe_fld (pv 2) rfl) pe_non (nomark _)) (pw_or1 (pt_cmpR (U.op_lt hr.units0) (pe_fld (pv 2) rfl) (pe_fld (pv 2) rfl) (nomark _))))) (pss_one ps_never) pss_nil)
    (pss_cons (ps_fld (pv 2) (pe_fld (pv 2) rfl) rfl)
    (pss_cons (ps_fld (pv 2) pe_non rfl)
    (pss_one (ps_fld (pv 2) pe_int rfl))))))
theorem sc_Memory_settle : FnScope n_Memory_settle ["self", "frontier"] (defScope s_Memory_settle) := ⟨rfl, rfl, rfl, by decide +kernel, rfl, by decide +kernel, by decide +kernel⟩
theorem g_Memory_settle (S : Sit K mg) : U.GMt P w K mg base CX0 (He.ga K "Memory") "settle" 3 ["self", "frontier"] (sp_Memory_settle K) := by
  obtain ⟨fd, F⟩ := S.says.def_ 28 (d := dd_Memory_settle) rfl
  have _i : SitK K := ⟨⟨mg, S⟩⟩
  have ok : FnOk P w K mg base CX0 3 _ fd ["self", "frontier"] (sp_Memory_settle K) := F.ok (k := 2) sc_Memory_settle (fun _ _ _ _ h => U.S2.len h) (fun cdv A outer s H vs Q E hr h => ⟨t_Memory_settle K, PSs.nox ?_, U.S2.use (P := fun vs => t_Memory_settle K { nx := fun _ H1 => Q .non H1, rt := Q } (start n_Memory_settle vs) H) h (fun a b h => pure_Memory_settle h)⟩)
  · exact ⟨f_cls_Memory S, _, fd, ok, F.bindsN (fun _ _ _ _ _ _ us hl => match us, hl with | [_, _], _ => rfl), f_meth_Memory_settle S⟩
  · have nd : n_Memory_settle.Nodup := sc_Memory_settle.nd
    exact (pss_cons (ps_if (PW.pt (pw_or (pt_cmpR U.op_notN (U.pe_mt0 (g_Memory_moving S) (hr.mono (by decide)) pass0 (pv 0)) pe_non (nomark _)) (pw_or (pt_not (U.pt_any (U.pe_fn (g_is_count S) (hr.mono (by decide)) pass0 (pa_cons (pv 1) pa_nil)))) (pw_or1 (pt_cmpR U.op_gt (pv 1) (pe_fld (pv 0) rfl) (nomark _)))))) (pss_one ps_never) pss_nil)
    (pss_cons (ps_if (U.pt_any (pe_callB (U.c_any rfl) (by rfl) (f_free_any S) (by decide +kernel) (pa_cons (pe_lc (own := [("entry", 2)]) rfl nd (U.pi_seq (pe_fld (pv 0) rfl)) (blkOk_by (N := n_Memory_settle) (sc := defScope s_Memory_settle) (by decide +kernel)) (fun _ _ _ _ _ => (pg_name (i := 2) nd rfl (Or.inl rfl))) (fun _ _ _ _ _ => pts_nil) (fun _ _ _ _ _ => (pe_and (pe_fld (pv 2) rfl) (pe_one (pe_cmpR U.op_gt (U.pe_mt0 (g_Entry_high S) (hr.mono (by decide)) pass0 (pv 2)) (pv 1) (nomark _)))))) pa_nil))) (pss_one ps_never) pss_nil)
    (pss_one (ps_fld (pv 0) (pv 1) rfl))))
theorem sc_Memory_state : FnScope n_Memory_state ["self"] (defScope s_Memory_state) := ⟨rfl, rfl, rfl, by decide +kernel, rfl, by decide +kernel, by decide +kernel⟩
theorem g_Memory_state (S : Sit K mg) : U.GMt P w K mg base CX0 (He.ga K "Memory") "state" 2 ["self"] (sp_Memory_state K) := by
  obtain ⟨fd, F⟩ := S.says.def_ 29 (d := dd_Memory_state) rfl
  have _i : SitK K := ⟨⟨mg, S⟩⟩
  have ok : FnOk P w K mg base CX0 2 _ fd ["self"] (sp_Memory_state K) := F.ok (k := 1) sc_Memory_state (fun _ _ _ _ h => U.S1.len h) (fun cdv A outer s H vs Q E hr h => ⟨t_Memory_state K, PSs.nox ?_, U.S1.use (P := fun vs => t_Memory_state K { nx := fun _ H1 => Q .non H1, rt := Q } (start n_Memory_state vs) H) h (fun a h => pure_Memory_state h)⟩)
  · exact ⟨f_cls_Memory S, _, fd, ok, F.bindsN (fun _ _ _ _ _ _ us hl => match us, hl with | [_], _ => rfl), f_meth_Memory_state S⟩
  · have nd : n_Memory_state.Nodup := sc_Memory_state.nd
    exact (pss_one (ps_ret (pe_tup (pa_cons (pe_callTy U.c_tuple (by rfl) (f_free_tuple S) (by decide +kernel) (pa_cons (pe_fld (pv 0) rfl) pa_nil)) (pa_cons (pe_callTy U.c_tuple (by rfl) (f_free_tuple S) (by decide +kernel) (pa_cons (pe_lc (own := [("entry", 1)]) rfl nd (U.pi_seq (pe_fld (pv 0) rfl)) (blkOk_by (N := n_Memory_state) (sc := defScope s_Memory_state) (by decide +kernel)) (fun _ _ _ _ _ => (pg_name (i := 1) nd rfl (Or.inl rfl))) (fun _ _ _ _ _ => pts_nil) (fun _ _ _ _ _ => (U.pe_mt0 (g_Entry_row S) (hr.mono (by decide)) pass0 (pv 1)))) pa_nil)) (pa_cons (pe_fld (pv 0) rfl) pa_nil))))))
theorem sc_Memory_take : FnScope n_Memory_take ["self", "state"] (defScope s_Memory_take) := ⟨rfl, rfl, rfl, by decide +kernel, rfl, by decide +kernel, by decide +kernel⟩
theorem g_Memory_take (S : Sit K mg) : U.GMt P w K mg base CX0 (He.ga K "Memory") "take" 1 ["self", "state"] (sp_Memory_take K) := by
  obtain ⟨fd, F⟩ := S.says.def_ 30 (d := dd_Memory_take) rfl
  have _i : SitK K := ⟨⟨mg, S⟩⟩
  have ok : FnOk P w K mg base CX0 1 _ fd ["self", "state"] (sp_Memory_take K) := F.ok (k := 0) sc_Memory_take (fun _ _ _ _ h => U.S2.len h) (fun cdv A outer s H vs Q E hr h => ⟨t_Memory_take K, PSs.nox ?_, U.S2.use (P := fun vs => t_Memory_take K { nx := fun _ H1 => Q .non H1, rt := Q } (start n_Memory_take vs) H) h (fun a b h => pure_Memory_take h)⟩)
  · exact ⟨f_cls_Memory S, _, fd, ok, F.bindsN (fun _ _ _ _ _ _ us hl => match us, hl with | [_, _], _ => rfl), f_meth_Memory_take S⟩
  · have nd : n_Memory_take.Nodup := sc_Memory_take.nd
    exact (pss_cons (ps_asg (pv 1) (pg_tup rfl (pgs_cons (pg_name (i := 2) nd rfl (Or.inl rfl)) (pgs_cons (pg_name (i := 3) nd rfl (Or.inl rfl)) (pgs_cons (U.pg_fld (pv 0)) pgs_nil)))))
    (pss_cons (ps_fld (pv 0) (pe_callTy U.c_list (by rfl) (f_free_list S) (by decide +kernel) (pa_cons (pv 2) pa_nil)) rfl)
    (pss_one (ps_for PassesOwn.never rfl (U.pi_zipLT (by rfl) (f_free_zip S) (pa_cons (pe_fld (pv 0) rfl) (pa_cons (pv 3) pa_nil))) (pg_tup rfl (pgs_cons (pg_name (i := 4) nd rfl (Or.inl rfl)) (pgs_cons (pg_name (i := 5) nd rfl (Or.inl rfl)) pgs_nil))) (pss_cons (ps_asg (pe_slice U.sl_any (pv 5) po_none (po_some pe_int)) (pg_tup rfl (pgs_cons (U.pg_fld (pv 4)) (pgs_cons (U.pg_fld (pv 4)) (pgs_cons (U.pg_fld (pv 4)) (pgs_cons (U.pg_fld (pv 4)) (pgs_cons (U.pg_fld (pv 4)) (pgs_cons (U.pg_fld (pv 4)) (pgs_cons (U.pg_fld (pv 4)) pgs_nil)))))))))
    (pss_one (ps_asg (pe_slice U.sl_any (pv 5) (po_some pe_int) po_none) (pg_tup rfl (pgs_cons (U.pg_fld (pv 4)) (pgs_cons (U.pg_fld (pv 4)) pgs_nil))))))))))
theorem sc_is_row : FnScope n_is_row ["value"] (defScope s_is_row) := ⟨rfl, rfl, rfl, by decide +kernel, rfl, by decide +kernel, by decide +kernel⟩
theorem g_is_row (S : Sit K mg) : U.GFn P w K mg base CX0 "is_row" 3 ["value"] (sp_is_row K) := by
  obtain ⟨fd, F⟩ := S.says.def_ 31 (d := dd_is_row) rfl
  have _i : SitK K := ⟨⟨mg, S⟩⟩
  have ok : FnOk P w K mg base CX0 3 _ fd ["value"] (sp_is_row K) := F.ok (k := 2) sc_is_row (fun _ _ _ _ h => U.S1.len h) (fun cdv A outer s H vs Q E hr h => ⟨t_is_row K, PSs.nox ?_, U.S1.use (P := fun vs => t_is_row K { nx := fun _ H1 => Q .non H1, rt := Q } (start n_is_row vs) H) h (fun a h => pure_is_row h)⟩)
  · exact ⟨_, fd, ok, F.bindsN (fun _ _ _ _ _ _ us hl => match us, hl with | [_], _ => rfl), F.kp, f_glo_is_row S⟩
  · have nd : n_is_row.Nodup := sc_is_row.nd
    exact (pss_cons (ps_if (PW.pt (pw_or (pt_not (U.pt_any (pe_callB U.c_isi (by rfl) (f_free_isinstance S) (by decide +kernel) (pa_cons (pv 0) (pa_cons (U.pe_ty (f_free_tuple S) (by decide +kernel)) pa_nil))))) (pw_or1 (pt_cmpR (U.op_ne hr.units) (pe_callB U.c_len (by rfl) (f_free_len S) (by decide +kernel) (pa_cons (pv 0) pa_nil)) pe_int (nomark _))))) (pss_one (ps_ret pe_bl)) pss_nil)
    (pss_cons (ps_asg (pv 0) (pg_tup rfl (pgs_cons (pg_name (i := 1) nd rfl (Or.inl rfl)) (pgs_cons (pg_name (i := 2) nd rfl (Or.inl rfl)) (pgs_cons (pg_name (i := 3) nd rfl (Or.inl rfl)) (pgs_cons (pg_name (i := 4) nd rfl (Or.inl rfl)) (pgs_cons (pg_name (i := 5) nd rfl (Or.inl rfl)) (pgs_cons (pg_name (i := 6) nd rfl (Or.inl rfl)) (pgs_cons (pg_name (i := 7) nd rfl (Or.inl rfl)) (pgs_cons (pg_name (i := 8) nd rfl (Or.inl rfl)) (pgs_cons (pg_name (i := 9) nd rfl (Or.inl rfl)) pgs_nil)))))))))))
    (pss_cons (ps_if (PW.pt (pw_or (pt_not (U.pt_any (pe_callB U.c_isi (by rfl) (f_free_isinstance S) (by decide +kernel) (pa_cons (pv 2) (pa_cons (U.pe_ty (f_free_bool S) (by decide +kernel)) pa_nil))))) (pw_or (pt_not (U.pt_any (pe_callB U.c_isi (by rfl) (f_free_isinstance S) (by decide +kernel) (pa_cons (pv 9) (pa_cons (U.pe_ty (f_free_bool S) (by decide +kernel)) pa_nil))))) (pw_or1 (pt_not (PW.pt (pw_or (pt_cmpR U.op_isN (pv 6) pe_non (nomark _)) (pw_or1 (U.pt_any (U.pe_fn (g_is_count S) (hr.mono (by decide)) pass0 (pa_cons (pv 6) pa_nil))))))))))) (pss_one (ps_ret pe_bl)) pss_nil)
    (pss_one (ps_ret (pe_callB (U.c_all rfl) (by rfl) (f_free_all S) (by decide +kernel) (pa_cons (pe_lc (own := [("number", 10)]) rfl nd (U.pi_seq (pe_tup (pa_cons (pv 1) (pa_cons (pv 3) (pa_cons (pv 4) (pa_cons (pv 5) (pa_cons (pv 7) (pa_cons (pv 8) pa_nil)))))))) (blkOk_by (N := n_is_row) (sc := defScope s_is_row) (by decide +kernel)) (fun _ _ _ _ _ => (pg_name (i := 10) nd rfl (Or.inl rfl))) (fun _ _ _ _ _ => pts_nil) (fun _ _ _ _ _ => (U.pe_fn (g_is_count S) (hr.mono (by decide)) pass0 (pa_cons (pv 10) pa_nil)))) pa_nil)))))))
theorem sc_is_sound : FnScope n_is_sound ["rows", "end"] (defScope s_is_sound) := ⟨rfl, rfl, rfl, by decide +kernel, rfl, by decide +kernel, by decide +kernel⟩
theorem g_is_sound (S : Sit K mg) : U.GFn P w K mg base CX0 "is_sound" 1 ["rows", "end"] (sp_is_sound K) := by
  obtain ⟨fd, F⟩ := S.says.def_ 32 (d := dd_is_sound) rfl
  have _i : SitK K := ⟨⟨mg, S⟩⟩
  have ok : FnOk P w K mg base CX0 1 _ fd ["rows", "end"] (sp_is_sound K) := F.ok (k := 0) sc_is_sound (fun _ _ _ _ h => U.S2.len h) (fun cdv A outer s H vs Q E hr h => ⟨t_is_sound K, PSs.nox ?_, U.S2.use (P := fun vs => t_is_sound K { nx := fun _ H1 => Q .non H1, rt := Q } (start n_is_sound vs) H) h (fun a b h => pure_is_sound h)⟩)
  · exact ⟨_, fd, ok, F.bindsN (fun _ _ _ _ _ _ us hl => match us, hl with | [_, _], _ => rfl), F.kp, f_glo_is_sound S⟩
  · have nd : n_is_sound.Nodup := sc_is_sound.nd
    exact (pss_cons (ps_set (i := 2) nd rfl (Or.inl rfl) (pe_lst pa_nil))
    (pss_cons (ps_set (i := 3) nd rfl (Or.inl rfl) pe_int)
    (pss_cons (ps_for PassesOwn.never rfl (U.pi_seq (pv 0)) (pg_tup rfl (pgs_cons (pg_name (i := 4) nd rfl (Or.inl rfl)) (pgs_cons (pg_name (i := 5) nd rfl (Or.inl rfl)) (pgs_cons (pg_name (i := 6) nd rfl (Or.inl rfl)) (pgs_cons (pg_name (i := 7) nd rfl (Or.inl rfl)) (pgs_cons (pg_name (i := 8) nd rfl (Or.inl rfl)) (pgs_cons (pg_name (i := 9) nd rfl (Or.inl rfl)) (pgs_cons (pg_name (i := 10) nd rfl (Or.inl rfl)) (pgs_cons (pg_name (i := 4) nd rfl (Or.inl rfl)) (pgs_cons (pg_name (i := 4) nd rfl (Or.inl rfl)) pgs_nil)))))))))) (pss_cons (ps_if (pt_not (U.pt_any (pv 5))) (pss_one ps_continue) pss_nil)
    (pss_cons (ps_if (PW.pt (pw_or (pt_cmpR (U.op_lt hr.units0) (pv 6) pe_int (nomark _)) (pw_or (pt_cmpR U.op_gt (pv 8) (pv 6) (nomark _)) (pw_or (pt_cmpR U.op_gt (pe_op U.op_add (pv 7) (pv 6)) (pv 1) (nomark _)) (pw_or1 (pt_cmpR U.op_gt (pv 10) (pe_ifExp (pt_cmpR U.op_isN (pv 9) pe_non (nomark _)) pe_int (pv 6)) (nomark _))))))) (pss_one (ps_ret pe_bl)) pss_nil)
    (pss_cons (ps_if (PW.pt (pw_and (pt_cmpR U.op_notN (pv 9) pe_non (nomark _)) (pw_and1 (pt_cmpR U.op_ge (pv 9) (pv 7) (nomark _))))) (pss_one (ps_ret pe_bl)) pss_nil)
    (pss_cons (ps_aug (i := 3) nd rfl (Or.inl rfl) (pe_ifExp (pt_cmpR U.op_isN (pv 9) pe_non (nomark _)) pe_int pe_int) ip_add)
    (pss_one (ps_expr (pe_bm PySem.F.plainAttrs_list PySem.F.slot_list_append PySem.F.type_list_append mt_append (pv 2) (pa_cons (pe_tup (pa_cons (pe_ifExp (pt_cmpR U.op_isN (pv 9) pe_non (nomark _)) (pv 7) (pv 9)) (pa_cons (pe_op U.op_add (pv 7) (pv 6)) pa_nil))) pa_nil)))))))))
    (pss_cons (ps_set (i := 2) nd rfl (Or.inl rfl) (pe_callB cr_sortedPO (by rfl) (f_free_sorted S) (by decide +kernel) (pa_cons (pv 2) pa_nil)))
    (pss_one (ps_ret (pe_and (pe_cmpR (U.op_lt hr.units0) (pv 3) pe_int (nomark _)) (pe_one (pe_callB (U.c_all rfl) (by rfl) (f_free_all S) (by decide +kernel) (pa_cons (pe_lc (own := [("one", 11), ("other", 12)]) rfl nd (pi_zip (by rfl) (f_free_zip S) (pa_cons (pv 2) (pa_cons (pe_slice U.sl_any (pv 2) (po_some pe_int) po_none) pa_nil))) (blkOk_by (N := n_is_sound) (sc := defScope s_is_sound) (by decide +kernel)) (fun _ _ _ _ _ => (pg_tup rfl (pgs_cons (pg_name (i := 11) nd rfl (Or.inl rfl)) (pgs_cons (pg_name (i := 12) nd rfl (Or.inl rfl)) pgs_nil)))) (fun _ _ _ _ _ => pts_nil) (fun _ _ _ _ _ => (pe_cmpR U.op_le (pe_ix (U.ix_any (hu_of hr)) (pv 11) pe_int (fun _ _ => rfl)) (pe_ix (U.ix_any (hu_of hr)) (pv 12) pe_int (fun _ _ => rfl)) (nomark _)))) pa_nil))))))))))
theorem sc_is_state : FnScope n_is_state ["value"] (defScope s_is_state) := ⟨rfl, rfl, rfl, by decide +kernel, rfl, by decide +kernel, by decide +kernel⟩
theorem g_is_state (S : Sit K mg) : U.GFn P w K mg base CX0 "is_state" 5 ["value"] (sp_is_state K) := by
  obtain ⟨fd, F⟩ := S.says.def_ 33 (d := dd_is_state) rfl
  have _i : SitK K := ⟨⟨mg, S⟩⟩
  have ok : FnOk P w K mg base CX0 5 _ fd ["value"] (sp_is_state K) := F.ok (k := 4) sc_is_state (fun _ _ _ _ h => U.S1.len h) (fun cdv A outer s H vs Q E hr h => ⟨t_is_state K, PSs.nox ?_, U.S1.use (P := fun vs => t_is_state K { nx := fun _ H1 => Q .non H1, rt := Q } (start n_is_state vs) H) h (fun a h => pure_is_state h)⟩)
  · exact ⟨_, fd, ok, F.bindsN (fun _ _ _ _ _ _ us hl => match us, hl with | [_], _ => rfl), F.kp, f_glo_is_state S⟩
  · have nd : n_is_state.Nodup := sc_is_state.nd
    exact (pss_cons (ps_if (PW.pt (pw_or (pt_not (U.pt_any (pe_callB U.c_isi (by rfl) (f_free_isinstance S) (by decide +kernel) (pa_cons (pv 0) (pa_cons (U.pe_ty (f_free_tuple S) (by decide +kernel)) pa_nil))))) (pw_or1 (pt_cmpR (U.op_ne hr.units) (pe_callB U.c_len (by rfl) (f_free_len S) (by decide +kernel) (pa_cons (pv 0) pa_nil)) pe_int (nomark _))))) (pss_one (ps_ret pe_bl)) pss_nil)
    (pss_cons (ps_asg (pv 0) (pg_tup rfl (pgs_cons (pg_name (i := 1) nd rfl (Or.inl rfl)) (pgs_cons (pg_name (i := 2) nd rfl (Or.inl rfl)) (pgs_cons (pg_name (i := 3) nd rfl (Or.inl rfl)) pgs_nil)))))
    (pss_cons (ps_if (PW.pt (pw_or (pt_not (U.pt_any (pe_callB U.c_isi (by rfl) (f_free_isinstance S) (by decide +kernel) (pa_cons (pv 1) (pa_cons (U.pe_ty (f_free_tuple S) (by decide +kernel)) pa_nil))))) (pw_or1 (pt_not (U.pt_any (pe_callB U.c_isi (by rfl) (f_free_isinstance S) (by decide +kernel) (pa_cons (pv 2) (pa_cons (U.pe_ty (f_free_tuple S) (by decide +kernel)) pa_nil)))))))) (pss_one (ps_ret pe_bl)) pss_nil)
    (pss_cons (ps_if (PW.pt (pw_or (pt_not (pt_chain U.op_le U.op_le pe_int (pe_callB U.c_len (by rfl) (f_free_len S) (by decide +kernel) (pa_cons (pv 1) pa_nil)) (U.pe_gint (f_int_MOST_CELLS S)))) (pw_or (pt_not (pt_chain U.op_le U.op_le pe_int (pe_callB U.c_len (by rfl) (f_free_len S) (by decide +kernel) (pa_cons (pv 2) pa_nil)) (U.pe_gint (f_int_MOST_SLOTS S)))) (pw_or (pt_not (U.pt_any (U.pe_fn (g_is_count S) (hr.mono (by decide)) pass0 (pa_cons (pv 3) pa_nil)))) (pw_or1 (pt_cmpR U.op_gt (pv 3) (pe_callB U.c_len (by rfl) (f_free_len S) (by decide +kernel) (pa_cons (pv 1) pa_nil)) (nomark _))))))) (pss_one (ps_ret pe_bl)) pss_nil)
    (pss_cons (ps_if (PW.pt (pw_or (pt_not (U.pt_any (pe_callB (U.c_all rfl) (by rfl) (f_free_all S) (by decide +kernel) (pa_cons (pe_lc (own := [("item", 4)]) rfl nd (U.pi_seq (pv 1)) (blkOk_by (N := n_is_state) (sc := defScope s_is_state) (by decide +kernel)) (fun _ _ _ _ _ => (pg_name (i := 4) nd rfl (Or.inl rfl))) (fun _ _ _ _ _ => pts_nil) (fun _ _ _ _ _ => (U.pe_fn (g_is_value S) (hr.mono (by decide)) pass0 (pa_cons (pv 4) pa_nil)))) pa_nil)))) (pw_or1 (pt_not (U.pt_any (pe_callB (U.c_all rfl) (by rfl) (f_free_all S) (by decide +kernel) (pa_cons (pe_lc (own := [("row", 5)]) rfl nd (U.pi_seq (pv 2)) (blkOk_by (N := n_is_state) (sc := defScope s_is_state) (by decide +kernel)) (fun _ _ _ _ _ => (pg_name (i := 5) nd rfl (Or.inl rfl))) (fun _ _ _ _ _ => pts_nil) (fun _ _ _ _ _ => (U.pe_fn (g_is_row S) (hr.mono (by decide)) pass0 (pa_cons (pv 5) pa_nil)))) pa_nil))))))) (pss_one (ps_ret pe_bl)) pss_nil)
    (pss_one (ps_ret (U.pe_fn (g_is_sound S) (hr.mono (by decide)) pass0 (pa_cons (pv 2) (pa_cons (pv 3) pa_nil))))))))))
theorem sc_restored : FnScope n_restored ["state"] (defScope s_restored) := ⟨rfl, rfl, rfl, by decide +kernel, rfl, by decide +kernel, by decide +kernel⟩
theorem g_restored (S : Sit K mg) : U.GFn P w K mg base CX0 "restored" 6 ["state"] (sp_restored K) := by
  obtain ⟨fd, F⟩ := S.says.def_ 34 (d := dd_restored) rfl
  have _i : SitK K := ⟨⟨mg, S⟩⟩
  have ok : FnOk P w K mg base CX0 6 _ fd ["state"] (sp_restored K) := F.ok (k := 5) sc_restored (fun _ _ _ _ h => U.S1.len h) (fun cdv A outer s H vs Q E hr h => ⟨t_restored K, PSs.nox ?_, U.S1.use (P := fun vs => t_restored K { nx := fun _ H1 => Q .non H1, rt := Q } (start n_restored vs) H) h (fun a h => pure_restored h)⟩)
  · exact ⟨_, fd, ok, F.bindsN (fun _ _ _ _ _ _ us hl => match us, hl with | [_], _ => rfl), F.kp, f_glo_restored S⟩
  · have nd : n_restored.Nodup := sc_restored.nd
    exact (pss_cons (ps_if (pt_not (U.pt_any (U.pe_fn (g_is_state S) (hr.mono (by decide)) pass0 (pa_cons (pv 0) pa_nil)))) (pss_one ps_never) pss_nil)
    (pss_cons (ps_set (i := 1) nd rfl (Or.inl rfl) (U.pe_mk (g_Memory___init__ S) (hr.mono (by decide)) pass0 (pa_cons (pe_callB U.c_len (by rfl) (f_free_len S) (by decide +kernel) (pa_cons (pe_ix (U.ix_any (hu_of hr)) (pv 0) pe_int (fun _ _ => rfl)) pa_nil)) (pa_cons (pe_callB U.c_len (by rfl) (f_free_len S) (by decide +kernel) (pa_cons (pe_ix (U.ix_any (hu_of hr)) (pv 0) pe_int (fun _ _ => rfl)) pa_nil)) pa_nil))))
    (pss_cons (ps_expr (U.pe_mt (g_Memory_take S) (hr.mono (by decide)) pass0 (pv 1) (pa_cons (pv 0) pa_nil)))
    (pss_one (ps_ret (pv 1))))))
theorem sc__law_cell : FnScope n__law_cell ["script", "k"] (defScope s__law_cell) := ⟨rfl, rfl, rfl, by decide +kernel, rfl, by decide +kernel, by decide +kernel⟩
theorem g__law_cell (S : Sit K mg) : U.GFn P w K mg base CX0 "_law_cell" 1 ["script", "k"] (sp__law_cell K) := by
  obtain ⟨fd, F⟩ := S.says.def_ 35 (d := dd__law_cell) rfl
  have _i : SitK K := ⟨⟨mg, S⟩⟩
  have ok : FnOk P w K mg base CX0 1 _ fd ["script", "k"] (sp__law_cell K) := F.ok (k := 0) sc__law_cell (fun _ _ _ _ h => U.S2.len h) (fun cdv A outer s H vs Q E hr h => ⟨t__law_cell K, PSs.nox ?_, U.S2.use (P := fun vs => t__law_cell K { nx := fun _ H1 => Q .non H1, rt := Q } (start n__law_cell vs) H) h (fun a b h => pure__law_cell h)⟩)
  · exact ⟨_, fd, ok, F.bindsN (fun _ _ _ _ _ _ us hl => match us, hl with | [_, _], _ => rfl), F.kp, f_glo__law_cell S⟩
  · have nd : n__law_cell.Nodup := sc__law_cell.nd
    exact (pss_cons (ps_if (pt_cmpR (U.op_lt hr.units0) (pv 1) (pe_callB call_len (by rfl) (f_free_len S) (by decide +kernel) (pa_cons (pv 0) pa_nil)) (nomark _)) (pss_one (ps_ret (pe_callTy U.c_int (by rfl) (f_free_int S) (by decide +kernel) (pa_cons (pe_ix ix_list (pv 0) (pv 1) (fun _ _ => rfl)) pa_nil)))) pss_nil)
    (pss_one (ps_ret pe_int)))
theorem sc__law_rich : FnScope n__law_rich ["cell", "k"] (defScope s__law_rich) := ⟨rfl, rfl, rfl, by decide +kernel, rfl, by decide +kernel, by decide +kernel⟩
theorem g__law_rich (S : Sit K mg) : U.GFn P w K mg base CX0 "_law_rich" 1 ["cell", "k"] (sp__law_rich K) := by
  obtain ⟨fd, F⟩ := S.says.def_ 36 (d := dd__law_rich) rfl
  have _i : SitK K := ⟨⟨mg, S⟩⟩
  have ok : FnOk P w K mg base CX0 1 _ fd ["cell", "k"] (sp__law_rich K) := F.ok (k := 0) sc__law_rich (fun _ _ _ _ h => U.S2.len h) (fun cdv A outer s H vs Q E hr h => ⟨t__law_rich K, PSs.nox ?_, U.S2.use (P := fun vs => t__law_rich K { nx := fun _ H1 => Q .non H1, rt := Q } (start n__law_rich vs) H) h (fun a b h => pure__law_rich h)⟩)
  · exact ⟨_, fd, ok, F.bindsN (fun _ _ _ _ _ _ us hl => match us, hl with | [_, _], _ => rfl), F.kp, f_glo__law_rich S⟩
  · have nd : n__law_rich.Nodup := sc__law_rich.nd
    exact (pss_cons (ps_if (pt_cmpR U.op_ge (pv 0) (pe_op U.op_pow pe_int pe_int) (nomark _)) (pss_one (ps_ret (pe_callTy U.c_int (by rfl) (f_free_int S) (by decide +kernel) (pa_cons (pv 0) pa_nil)))) pss_nil)
    (pss_cons (ps_set (i := 2) nd rfl (Or.inl rfl) (pe_op U.op_mod (pe_callTy U.c_int (by rfl) (f_free_int S) (by decide +kernel) (pa_cons (pe_op U.op_add (pe_op U.op_add (pe_op U.op_mul (pv 0) pe_int) (pe_op U.op_mul (pv 1) pe_int)) pe_int) pa_nil)) pe_int))
    (pss_one (ps_ret (pe_op U.op_add (pe_op U.op_mul (pv 2) pe_int) (pe_op U.op_mod (pe_callTy U.c_int (by rfl) (f_free_int S) (by decide +kernel) (pa_cons (pe_op U.op_add (pe_op U.op_mul (pv 2) pe_int) (pv 0)) pa_nil)) pe_int))))))
theorem sc__law_reserved : FnScope n__law_reserved ["w", "memory", "size"] (defScope s__law_reserved) := ⟨rfl, rfl, rfl, by decide +kernel, rfl, by decide +kernel, by decide +kernel⟩
theorem g__law_reserved (S : Sit K mg) : U.GFn P w K mg base CX0 "_law_reserved" 4 ["w", "memory", "size"] (sp__law_reserved K) := by
  obtain ⟨fd, F⟩ := S.says.def_ 37 (d := dd__law_reserved) rfl
  have _i : SitK K := ⟨⟨mg, S⟩⟩
  have ok : FnOk P w K mg base CX0 4 _ fd ["w", "memory", "size"] (sp__law_reserved K) := F.ok (k := 3) sc__law_reserved (fun _ _ _ _ h => U.S3.len h) (fun cdv A outer s H vs Q E hr h => ⟨t__law_reserved K, PSs.nox ?_, U.S3.use (P := fun vs => t__law_reserved K { nx := fun _ H1 => Q .non H1, rt := Q } (start n__law_reserved vs) H) h (fun a b c h => pure__law_reserved h)⟩)
  · exact ⟨_, fd, ok, F.bindsN (fun _ _ _ _ _ _ us hl => match us, hl with | [_, _, _], _ => rfl), F.kp, f_glo__law_reserved S⟩
  · have nd : n__law_reserved.Nodup := sc__law_reserved.nd
    exact (pss_cons (ps_set (i := 3) nd rfl (Or.inl rfl) (pe_and (pe_cmpR U.op_le (pe_op U.op_add (pe_ix (U.ix_any (hu_of hr)) (pv 0) pe_str (fun _ _ => rfl)) (pv 2)) (pe_ix (U.ix_any (hu_of hr)) (pv 0) pe_str (fun _ _ => rfl)) (nomark _)) (pe_one (pe_cmpR (U.op_lt hr.units0) (pe_callB U.c_len (by rfl) (f_free_len S) (by decide +kernel) (pa_cons (pe_ix (U.ix_any (hu_of hr)) (pv 0) pe_str (fun _ _ => rfl)) pa_nil)) (pe_callB U.c_len (by rfl) (f_free_len S) (by decide +kernel) (pa_cons (pe_ix (U.ix_any (hu_of hr)) (pv 0) pe_str (fun _ _ => rfl)) pa_nil)) (nomark _)))))
    (pss_cons (ps_if (pt_cmpR (U.op_ne hr.units) (U.pe_mt (g_Memory_fits S) (hr.mono (by decide)) pass0 (pv 1) (pa_cons (pv 2) pa_nil)) (pv 3) (nomark _)) (pss_one (ps_ret pe_bl)) pss_nil)
    (pss_cons (ps_try_only rfl rfl (by exact ⟨rfl, by decide, .inl (f_glo_NoRoom S)⟩) takes0 (fun W pn xe tk hpo => (pss_one (ps_set (i := 4) nd rfl (Or.inl rfl) (U.pe_mtS (g_Memory_reserve S) (hr.mono (by decide)) (passAt tk) (pv 1) (pa_cons (pv 2) pa_nil))))) (fun a oe cls d pn _ _ => (pss_one (ps_ret (pe_not (pv 3))))))
    (pss_cons (ps_set (i := 5) nd rfl (Or.inl rfl) (pe_callB (U.c_min rfl) (by rfl) (f_free_min S) (by decide +kernel) (pa_cons (pe_lc (own := [("k", 6)]) rfl nd (pi_range1 (by rfl) (f_free_range S) (pa_cons (pe_callB U.c_len (by rfl) (f_free_len S) (by decide +kernel) (pa_cons (pe_ix (U.ix_any (hu_of hr)) (pv 0) pe_str (fun _ _ => rfl)) pa_nil)) pa_nil)) (blkOk_by (N := n__law_reserved) (sc := defScope s__law_reserved) (by decide +kernel)) (fun _ _ _ _ _ => (pg_name (i := 6) nd rfl (Or.inl rfl))) (fun _ _ _ _ _ => (pts_one (pt_cmpR (U.op_notIn (hu_of hr)) (pv 6) (pe_ix (U.ix_any (hu_of hr)) (pv 0) pe_str (fun _ _ => rfl)) (by rfl)))) (fun _ _ _ _ _ => (pv 6))) pa_nil)))
    (pss_cons (ps_if (PW.pt (pw_or (pt_not (U.pt_any (pv 3))) (pw_or1 (pt_cmpR (U.op_ne hr.units) (pv 4) (pe_tup (pa_cons (pv 5) (pa_cons (pe_ix (U.ix_any (hu_of hr)) (pe_ix (U.ix_any (hu_of hr)) (pv 0) pe_str (fun _ _ => rfl)) (pv 5) (fun _ _ => rfl)) pa_nil))) (nomark _))))) (pss_one (ps_ret pe_bl)) pss_nil)
    (pss_cons (ps_asg (pe_disp (pps_cons pe_str (pe_ix (U.ix_any (hu_of hr)) (pv 0) pe_str (fun _ _ => rfl)) (pps_cons pe_str (pe_op U.op_mul (pe_lst (pa_cons pe_non pa_nil)) (pv 2)) (pps_cons pe_str pe_int pps_nil))) (by rfl) (by rfl) (fun z => by cases z) (by decide)) (pg_sub (pe_ix (U.ix_any (hu_of hr)) (pv 0) pe_str (fun _ _ => rfl)) (pv 5) (U.set_any (hu_of hr))))
    (pss_cons (ps_asg (pe_op U.op_add (pe_ix (U.ix_any (hu_of hr)) (pv 0) pe_str (fun _ _ => rfl)) (pv 2)) (pg_sub (pv 0) pe_str (U.set_any (hu_of hr))))
    (pss_one (ps_ret (pe_and (pe_cmpR (U.op_eq hr.units) (U.pe_mt0 (g_Memory_end S) (hr.mono (by decide)) pass0 (pv 1)) (pe_ix (U.ix_any (hu_of hr)) (pv 0) pe_str (fun _ _ => rfl)) (nomark _)) (pe_one (pe_cmpR (U.op_eq hr.units) (U.pe_mt0 (g_Memory_live S) (hr.mono (by decide)) pass0 (pv 1)) (pe_callB U.c_len (by rfl) (f_free_len S) (by decide +kernel) (pa_cons (pe_ix (U.ix_any (hu_of hr)) (pv 0) pe_str (fun _ _ => rfl)) pa_nil)) (nomark _)))))))))))))
theorem sc__law_filled : FnScope n__law_filled ["w", "memory", "slot"] (defScope s__law_filled) := ⟨rfl, rfl, rfl, by decide +kernel, rfl, by decide +kernel, by decide +kernel⟩
theorem g__law_filled (S : Sit K mg) : U.GFn P w K mg base CX0 "_law_filled" 7 ["w", "memory", "slot"] (sp__law_filled K) := by
  obtain ⟨fd, F⟩ := S.says.def_ 38 (d := dd__law_filled) rfl
  have _i : SitK K := ⟨⟨mg, S⟩⟩
  have ok : FnOk P w K mg base CX0 7 _ fd ["w", "memory", "slot"] (sp__law_filled K) := F.ok (k := 6) sc__law_filled (fun _ _ _ _ h => U.S3.len h) (fun cdv A outer s H vs Q E hr h => ⟨t__law_filled K, PSs.nox ?_, U.S3.use (P := fun vs => t__law_filled K { nx := fun _ H1 => Q .non H1, rt := Q } (start n__law_filled vs) H) h (fun a b c h => pure__law_filled h)⟩)
  · exact ⟨_, fd, ok, F.bindsN (fun _ _ _ _ _ _ us hl => match us, hl with | [_, _, _], _ => rfl), F.kp, f_glo__law_filled S⟩
  · have nd : n__law_filled.Nodup := sc__law_filled.nd
    exact (pss_cons (ps_set (i := 3) nd rfl (Or.inl rfl) (pe_ix (U.ix_any (hu_of hr)) (pe_ix (U.ix_any (hu_of hr)) (pv 0) pe_str (fun _ _ => rfl)) (pv 2) (fun _ _ => rfl)))
    (pss_cons (ps_set (i := 4) nd rfl (Or.inl rfl) (pe_tup (pa_cons (pv 2) (pa_cons (pe_ix (U.ix_any (hu_of hr)) (pe_ix (U.ix_any (hu_of hr)) (pv 0) pe_str (fun _ _ => rfl)) (pv 2) (fun _ _ => rfl)) pa_nil))))
    (pss_cons (ps_for PassesOwn.never rfl (pi_range2 (by rfl) (f_free_range S) (pa_cons (pe_ix (U.ix_any (hu_of hr)) (pv 3) pe_str (fun _ _ => rfl)) (pa_cons (pe_callB U.c_len (by rfl) (f_free_len S) (by decide +kernel) (pa_cons (pe_ix (U.ix_any (hu_of hr)) (pv 3) pe_str (fun _ _ => rfl)) pa_nil)) pa_nil))) (pg_name (i := 5) nd rfl (Or.inl rfl)) (pss_one (ps_if (pt_cmpR (U.op_ne hr.units) (U.pe_mt (g_Memory_fill S) (hr.mono (by decide)) pass0 (pv 1) (pa_cons (pv 4) pa_nil)) (pe_cmpR (U.op_eq hr.units) (pe_op U.op_add (pv 5) pe_int) (pe_callB U.c_len (by rfl) (f_free_len S) (by decide +kernel) (pa_cons (pe_ix (U.ix_any (hu_of hr)) (pv 3) pe_str (fun _ _ => rfl)) pa_nil)) (nomark _)) (nomark _)) (pss_one (ps_ret pe_bl)) pss_nil)))
    (pss_cons (ps_asg (pe_callB U.c_len (by rfl) (f_free_len S) (by decide +kernel) (pa_cons (pe_ix (U.ix_any (hu_of hr)) (pv 3) pe_str (fun _ _ => rfl)) pa_nil)) (pg_sub (pv 3) pe_str (U.set_any (hu_of hr))))
    (pss_one (ps_ret pe_bl))))))
theorem sc__law_right : FnScope n__law_right ["w", "memory", "slot"] (defScope s__law_right) := ⟨rfl, rfl, rfl, by decide +kernel, rfl, by decide +kernel, by decide +kernel⟩
theorem g__law_right (S : Sit K mg) : U.GFn P w K mg base CX0 "_law_right" 7 ["w", "memory", "slot"] (sp__law_right K) := by
  obtain ⟨fd, F⟩ := S.says.def_ 39 (d := dd__law_right) rfl
  have _i : SitK K := ⟨⟨mg, S⟩⟩
  have ok : FnOk P w K mg base CX0 7 _ fd ["w", "memory", "slot"] (sp__law_right K) := F.ok (k := 6) sc__law_right (fun _ _ _ _ h => U.S3.len h) (fun cdv A outer s H vs Q E hr h => ⟨t__law_right K, PSs.nox ?_, U.S3.use (P := fun vs => t__law_right K { nx := fun _ H1 => Q .non H1, rt := Q } (start n__law_right vs) H) h (fun a b c h => pure__law_right h)⟩)
  · exact ⟨_, fd, ok, F.bindsN (fun _ _ _ _ _ _ us hl => match us, hl with | [_, _, _], _ => rfl), F.kp, f_glo__law_right S⟩
  · have nd : n__law_right.Nodup := sc__law_right.nd
    exact (pss_cons (ps_set (i := 3) nd rfl (Or.inl rfl) (pe_ix (U.ix_any (hu_of hr)) (pe_ix (U.ix_any (hu_of hr)) (pv 0) pe_str (fun _ _ => rfl)) (pv 2) (fun _ _ => rfl)))
    (pss_cons (ps_set (i := 4) nd rfl (Or.inl rfl) (pe_tup (pa_cons (pv 2) (pa_cons (pe_ix (U.ix_any (hu_of hr)) (pe_ix (U.ix_any (hu_of hr)) (pv 0) pe_str (fun _ _ => rfl)) (pv 2) (fun _ _ => rfl)) pa_nil))))
    (pss_cons (ps_if (PW.pt (pw_or (pt_cmpR (U.op_ne hr.units) (U.pe_mt (g_Memory_size S) (hr.mono (by decide)) pass0 (pv 1) (pa_cons (pv 4) pa_nil)) (pe_callB U.c_len (by rfl) (f_free_len S) (by decide +kernel) (pa_cons (pe_ix (U.ix_any (hu_of hr)) (pv 3) pe_str (fun _ _ => rfl)) pa_nil)) (nomark _)) (pw_or (pt_cmpR (U.op_ne hr.units) (U.pe_mt (g_Memory_start S) (hr.mono (by decide)) pass0 (pv 1) (pa_cons (pv 2) pa_nil)) (pe_ix (U.ix_any (hu_of hr)) (pv 3) pe_str (fun _ _ => rfl)) (nomark _)) (pw_or1 (pt_cmpR (U.op_ne hr.units) (U.pe_mt (g_Memory_handle_at S) (hr.mono (by decide)) pass0 (pv 1) (pa_cons (pv 2) pa_nil)) (pv 4) (nomark _)))))) (pss_one (ps_ret pe_bl)) pss_nil)
    (pss_cons (ps_for PassesOwn.never rfl (pi_range1 (by rfl) (f_free_range S) (pa_cons (pe_callB U.c_len (by rfl) (f_free_len S) (by decide +kernel) (pa_cons (pe_ix (U.ix_any (hu_of hr)) (pv 3) pe_str (fun _ _ => rfl)) pa_nil)) pa_nil)) (pg_name (i := 5) nd rfl (Or.inl rfl)) (pss_one (ps_if (PW.pt (pw_or (pt_cmpR (U.op_ne hr.units) (U.pe_mt (g_Memory_read S) (hr.mono (by decide)) pass0 (pv 1) (pa_cons (pv 4) (pa_cons (pv 5) pa_nil))) (pe_ix (U.ix_any (hu_of hr)) (pe_ix (U.ix_any (hu_of hr)) (pv 3) pe_str (fun _ _ => rfl)) (pv 5) (fun _ _ => rfl)) (nomark _)) (pw_or1 (pt_cmpR (U.op_ne hr.units) (U.pe_mt (g_Memory_place S) (hr.mono (by decide)) pass0 (pv 1) (pa_cons (pv 4) (pa_cons (pv 5) pa_nil))) (pe_op U.op_add (pe_ix (U.ix_any (hu_of hr)) (pv 3) pe_str (fun _ _ => rfl)) (pv 5)) (nomark _))))) (pss_one (ps_ret pe_bl)) pss_nil)))
    (pss_one (ps_ret pe_bl))))))
theorem sc__law_moved : FnScope n__law_moved ["w", "memory", "slot", "to", "part"] (defScope s__law_moved) := ⟨rfl, rfl, rfl, by decide +kernel, rfl, by decide +kernel, by decide +kernel⟩
theorem g__law_moved (S : Sit K mg) : U.GFn P w K mg base CX0 "_law_moved" 7 ["w", "memory", "slot", "to", "part"] (sp__law_moved K) := by
  obtain ⟨fd, F⟩ := S.says.def_ 40 (d := dd__law_moved) rfl
  have _i : SitK K := ⟨⟨mg, S⟩⟩
  have ok : FnOk P w K mg base CX0 7 _ fd ["w", "memory", "slot", "to", "part"] (sp__law_moved K) := F.ok (k := 6) sc__law_moved (fun _ _ _ _ h => U.S5.len h) (fun cdv A outer s H vs Q E hr h => ⟨t__law_moved K, PSs.nox ?_, U.S5.use (P := fun vs => t__law_moved K { nx := fun _ H1 => Q .non H1, rt := Q } (start n__law_moved vs) H) h (fun a b c d e h => pure__law_moved h)⟩)
  · exact ⟨_, fd, ok, F.bindsN (fun _ _ _ _ _ _ us hl => match us, hl with | [_, _, _, _, _], _ => rfl), F.kp, f_glo__law_moved S⟩
  · have nd : n__law_moved.Nodup := sc__law_moved.nd
    exact (pss_cons (ps_set (i := 5) nd rfl (Or.inl rfl) (pe_ix (U.ix_any (hu_of hr)) (pe_ix (U.ix_any (hu_of hr)) (pv 0) pe_str (fun _ _ => rfl)) (pv 2) (fun _ _ => rfl)))
    (pss_cons (ps_set (i := 6) nd rfl (Or.inl rfl) (pe_tup (pa_cons (pv 2) (pa_cons (pe_ix (U.ix_any (hu_of hr)) (pe_ix (U.ix_any (hu_of hr)) (pv 0) pe_str (fun _ _ => rfl)) (pv 2) (fun _ _ => rfl)) pa_nil))))
    (pss_cons (ps_expr (U.pe_mt (g_Memory_begin_move S) (hr.mono (by decide)) pass0 (pv 1) (pa_cons (pv 2) (pa_cons (pv 3) pa_nil))))
    (pss_cons (ps_for PassesOwn.never rfl (pi_range1 (by rfl) (f_free_range S) (pa_cons (pe_callB U.c_len (by rfl) (f_free_len S) (by decide +kernel) (pa_cons (pe_ix (U.ix_any (hu_of hr)) (pv 5) pe_str (fun _ _ => rfl)) pa_nil)) pa_nil)) (pg_name (i := 7) nd rfl (Or.inl rfl)) (pss_cons (ps_if (pt_cmpR (U.op_ne hr.units) (U.pe_mt (g_Memory_copy_cell S) (hr.mono (by decide)) pass0 (pv 1) (pa_cons (pv 2) pa_nil)) (pe_cmpR (U.op_eq hr.units) (pe_op U.op_add (pv 7) pe_int) (pe_callB U.c_len (by rfl) (f_free_len S) (by decide +kernel) (pa_cons (pe_ix (U.ix_any (hu_of hr)) (pv 5) pe_str (fun _ _ => rfl)) pa_nil)) (nomark _)) (nomark _)) (pss_one (ps_ret pe_bl)) pss_nil)
    (pss_cons (ps_set (i := 8) nd rfl (Or.inl rfl) (pe_op U.op_mod (pe_op U.op_fdiv (pv 4) (pe_op U.op_add pe_int (pv 7))) (pe_callB U.c_len (by rfl) (f_free_len S) (by decide +kernel) (pa_cons (pe_ix (U.ix_any (hu_of hr)) (pv 5) pe_str (fun _ _ => rfl)) pa_nil))))
    (pss_cons (ps_if (PW.pt (pw_or (pt_cmpR (U.op_ne hr.units) (U.pe_mt (g_Memory_write S) (hr.mono (by decide)) pass0 (pv 1) (pa_cons (pv 6) (pa_cons (pv 8) (pa_cons (pv 7) pa_nil)))) (pe_ix (U.ix_any (hu_of hr)) (pe_ix (U.ix_any (hu_of hr)) (pv 5) pe_str (fun _ _ => rfl)) (pv 8) (fun _ _ => rfl)) (nomark _)) (pw_or1 (pt_cmpR (U.op_ne hr.units) (U.pe_mt (g_Memory_place S) (hr.mono (by decide)) pass0 (pv 1) (pa_cons (pv 6) (pa_cons (pv 8) pa_nil))) (pe_op U.op_add (pe_ix (U.ix_any (hu_of hr)) (pe_lst (pa_cons (pe_ix (U.ix_any (hu_of hr)) (pv 5) pe_str (fun _ _ => rfl)) (pa_cons (pv 3) pa_nil))) (pe_callTy U.c_int (by rfl) (f_free_int S) (by decide +kernel) (pa_cons (pe_cmpR U.op_le (pv 8) (pv 7) (nomark _)) pa_nil)) (fun _ _ => rfl)) (pv 8)) (nomark _))))) (pss_one (ps_ret pe_bl)) pss_nil)
    (pss_one (ps_asg (pv 7) (pg_sub (pe_ix (U.ix_any (hu_of hr)) (pv 5) pe_str (fun _ _ => rfl)) (pv 8) (U.set_any (hu_of hr)))))))))
    (pss_cons (ps_expr (U.pe_mt (g_Memory_turn S) (hr.mono (by decide)) pass0 (pv 1) (pa_cons (pv 2) pa_nil)))
    (pss_cons (ps_asg (pv 3) (pg_sub (pv 5) pe_str (U.set_any (hu_of hr))))
    (pss_one (ps_ret pe_bl))))))))
theorem sc_law : FnScope n_law ["script"] (defScope s_law) := ⟨rfl, rfl, rfl, by decide +kernel, rfl, by decide +kernel, by decide +kernel⟩
theorem law_ok (S : Sit K mg) : ∃ fd, (∀ (s : Shared) (u : Value), BindsTo s fd ⟨[u], []⟩ [("script", u)]) ∧ ∀ base : Heap, FnOk P w K mg base CX0 8 (He.ga K "law") fd ["script"] (sp_law K) := by
  obtain ⟨fd, F⟩ := S.says.def_ 41 (d := dd_law) rfl
  have _i : SitK K := ⟨⟨mg, S⟩⟩
  refine ⟨fd, fun s u => FunD.bindsA (ps := ["script"]) F (fun _ _ _ _ _ _ us hl => match us, hl with | [_], _ => rfl) s [u] rfl, fun base => ?_⟩
  refine (show FnOk P w K mg base CX0 8 _ fd ["script"] (sp_law K) from F.ok (k := 7) sc_law (fun _ _ _ _ h => U.S1.len h) (fun cdv A outer s H vs Q E hr h => ⟨t_law K, PSs.nox ?_, U.S1.use (P := fun vs => t_law K { nx := fun _ H1 => Q .non H1, rt := Q } (start n_law vs) H) h (fun a h => pure_law h)⟩))
  · have nd : n_law.Nodup := sc_law.nd
    exact (pss_cons (ps_set (i := 1) nd rfl (Or.inl rfl) (U.pe_fn (g__law_rich S) (hr.mono (by decide)) pass0 (pa_cons (U.pe_fn (g__law_cell S) (hr.mono (by decide)) pass0 (pa_cons (pv 0) (pa_cons pe_int pa_nil))) (pa_cons pe_int pa_nil))))
    (pss_cons (ps_set (i := 2) nd rfl (Or.inr rfl) (pe_disp (pps_cons pe_str (pe_op U.op_add pe_int (pe_op U.op_mod (pv 1) pe_int)) (pps_cons pe_str (pe_op U.op_mul (pe_lst (pa_cons pe_int pa_nil)) (pe_op U.op_add pe_int (pe_op U.op_mod (pe_op U.op_fdiv (pv 1) pe_int) pe_int))) (pps_cons pe_str pe_dnewK (pps_cons pe_str pe_int pps_nil)))) (by rfl) (by rfl) (fun z => by cases z) (by decide)))
    (pss_cons (ps_set (i := 3) nd rfl (Or.inl rfl) (U.pe_mk (g_Memory___init__ S) (hr.mono (by decide)) pass0 (pa_cons (pe_ix (U.ix_any (hu_of hr)) (pv 2) pe_str (fun _ _ => rfl)) (pa_cons (pe_callB U.c_len (by rfl) (f_free_len S) (by decide +kernel) (pa_cons (pe_ix (U.ix_any (hu_of hr)) (pv 2) pe_str (fun _ _ => rfl)) pa_nil)) pa_nil))))
    (pss_cons (ps_for PassesOwn.never rfl (pi_range1 (by rfl) (f_free_range S) (pa_cons (pe_op U.op_add pe_int (pe_op U.op_mod (pe_op U.op_fdiv (pv 1) (pe_op U.op_pow pe_int pe_int)) pe_int)) pa_nil)) (pg_name (i := 4) nd rfl (Or.inl rfl)) (pss_cons (ps_set (i := 5) nd rfl (Or.inl rfl) (U.pe_fn (g__law_rich S) (hr.mono (by decide)) pass0 (pa_cons (U.pe_fn (g__law_cell S) (hr.mono (by decide)) pass0 (pa_cons (pv 0) (pa_cons (pe_op U.op_add pe_int (pe_op U.op_mod (pv 4) pe_int)) pa_nil))) (pa_cons (pv 4) pa_nil))))
    (pss_one (ps_if (PW.pt (pw_or (pt_cmpR (U.op_lt hr.units0) (pe_op U.op_mod (pv 5) pe_int) pe_int (nomark _)) (pw_or1 (pt_cmpR (U.op_eq hr.units) (pe_callB U.c_len (by rfl) (f_free_len S) (by decide +kernel) (pa_cons (pe_ix (U.ix_any (hu_of hr)) (pv 2) pe_str (fun _ _ => rfl)) pa_nil)) pe_int (nomark _))))) (pss_one (ps_if (pt_not (U.pt_any (U.pe_fn (g__law_reserved S) (hr.mono (by decide)) pass0 (pa_cons (pv 2) (pa_cons (pv 3) (pa_cons (pe_op U.op_add pe_int (pe_op U.op_mod (pe_op U.op_fdiv (pv 5) pe_int) pe_int)) pa_nil)))))) (pss_one (ps_ret pe_bl)) pss_nil)) (pss_cons (ps_set (i := 6) nd rfl (Or.inl rfl) (pe_callB (U.c_sortedD rfl) (by rfl) (f_free_sorted S) (by decide +kernel) (pa_cons (pe_ix (U.ix_any (hu_of hr)) (pv 2) pe_str (fun _ _ => rfl)) pa_nil)))
    (pss_cons (ps_set (i := 7) nd rfl (Or.inl rfl) (pe_ix (U.ix_any (hu_of hr)) (pv 6) (pe_op U.op_mod (pe_op U.op_fdiv (pv 5) pe_int) (pe_callB U.c_len (by rfl) (f_free_len S) (by decide +kernel) (pa_cons (pv 6) pa_nil))) (fun _ _ => rfl)))
    (pss_one (ps_if (pt_cmpR (U.op_eq hr.units) (pe_op U.op_mod (pe_op U.op_fdiv (pv 5) pe_int) pe_int) pe_int (nomark _)) (pss_cons (ps_expr (U.pe_mt (g_Memory_free S) (hr.mono (by decide)) pass0 (pv 3) (pa_cons (pv 7) pa_nil)))
    (pss_cons (ps_expr (pe_dpop1 (pe_ix (U.ix_any (hu_of hr)) (pv 2) pe_str (fun _ _ => rfl)) (pv 7) (by exact ⟨rfl, rfl, rfl, rfl⟩)))
    (pss_one (ps_asg (pe_op U.op_add (pe_ix (U.ix_any (hu_of hr)) (pe_ix (U.ix_any (hu_of hr)) (pv 2) pe_str (fun _ _ => rfl)) (pv 7) (fun _ _ => rfl)) pe_int) (pg_sub (pe_ix (U.ix_any (hu_of hr)) (pv 2) pe_str (fun _ _ => rfl)) (pv 7) (U.set_any (hu_of hr))))))) (pss_one (ps_if (pt_not (U.pt_any (U.pe_fn (g__law_filled S) (hr.mono (by decide)) pass0 (pa_cons (pv 2) (pa_cons (pv 3) (pa_cons (pv 7) pa_nil)))))) (pss_one (ps_ret pe_bl)) (pss_cons (ps_set (i := 8) nd rfl (Or.inl rfl) (pe_ix (U.ix_any (hu_of hr)) (pe_ix (U.ix_any (hu_of hr)) (pv 2) pe_str (fun _ _ => rfl)) (pv 7) (fun _ _ => rfl)))
    (pss_cons (ps_set (i := 9) nd rfl (Or.inl rfl) (pe_op U.op_mod (pe_op U.op_fdiv (pv 5) pe_int) (pe_callB U.c_len (by rfl) (f_free_len S) (by decide +kernel) (pa_cons (pe_ix (U.ix_any (hu_of hr)) (pv 8) pe_str (fun _ _ => rfl)) pa_nil))))
    (pss_cons (ps_if (pt_cmpR (U.op_ne hr.units) (U.pe_mt (g_Memory_write S) (hr.mono (by decide)) pass0 (pv 3) (pa_cons (pe_tup (pa_cons (pv 7) (pa_cons (pe_ix (U.ix_any (hu_of hr)) (pe_ix (U.ix_any (hu_of hr)) (pv 2) pe_str (fun _ _ => rfl)) (pv 7) (fun _ _ => rfl)) pa_nil))) (pa_cons (pv 9) (pa_cons (pv 5) pa_nil)))) (pe_ix (U.ix_any (hu_of hr)) (pe_ix (U.ix_any (hu_of hr)) (pv 8) pe_str (fun _ _ => rfl)) (pv 9) (fun _ _ => rfl)) (nomark _)) (pss_one (ps_ret pe_bl)) pss_nil)
    (pss_one (ps_asg (pv 5) (pg_sub (pe_ix (U.ix_any (hu_of hr)) (pv 8) pe_str (fun _ _ => rfl)) (pv 9) (U.set_any (hu_of hr))))))))))))))))))
    (pss_cons (ps_set (i := 10) nd rfl (Or.inl rfl) (pe_callB cr_sortedPO (by rfl) (f_free_sorted S) (by decide +kernel) (pa_cons (pe_lock (pe_lc (own := [("slot", 7)]) rfl nd (pi_keys (pe_ix (U.ix_any (hu_of hr)) (pv 2) pe_str (fun _ _ => rfl))) (blkOk_by (N := n_law) (sc := defScope s_law) (by decide +kernel)) (fun _ _ _ _ _ => (pg_name (i := 7) nd rfl (Or.inl rfl))) (fun _ _ _ _ _ => pts_nil) (fun _ _ _ _ _ => (pe_tup (pa_cons (pe_ix (U.ix_any (hu_of hr)) (pe_ix (U.ix_any (hu_of hr)) (pe_ix (U.ix_any (hu_of hr)) (pv 2) pe_str (fun _ _ => rfl)) (pv 7) (fun _ _ => rfl)) pe_str (fun _ _ => rfl)) (pa_cons (pv 7) pa_nil)))))) pa_nil)))
    (pss_cons (ps_set (i := 11) nd rfl (Or.inl rfl) pe_int)
    (pss_cons (ps_for PassesOwn.never rfl (pi_range1 (by rfl) (f_free_range S) (pa_cons (pe_callB U.c_len (by rfl) (f_free_len S) (by decide +kernel) (pa_cons (pv 10) pa_nil)) pa_nil)) (pg_name (i := 12) nd rfl (Or.inl rfl)) (pss_cons (ps_set (i := 7) nd rfl (Or.inl rfl) (pe_ix (U.ix_any (hu_of hr)) (pe_ix (U.ix_any (hu_of hr)) (pv 10) (pv 12) (fun _ _ => rfl)) pe_int (fun _ _ => rfl)))
    (pss_cons (ps_if (pt_not (U.pt_any (U.pe_fn (g__law_filled S) (hr.mono (by decide)) pass0 (pa_cons (pv 2) (pa_cons (pv 3) (pa_cons (pv 7) pa_nil)))))) (pss_one (ps_ret pe_bl)) pss_nil)
    (pss_cons (ps_if (PW.pt (pw_and (pt_cmpR U.op_gt (pe_ix (U.ix_any (hu_of hr)) (pe_ix (U.ix_any (hu_of hr)) (pv 10) (pv 12) (fun _ _ => rfl)) pe_int (fun _ _ => rfl)) (pv 11) (nomark _)) (pw_and1 (pt_not (U.pt_any (U.pe_fn (g__law_moved S) (hr.mono (by decide)) pass0 (pa_cons (pv 2) (pa_cons (pv 3) (pa_cons (pv 7) (pa_cons (pv 11) (pa_cons (U.pe_fn (g__law_rich S) (hr.mono (by decide)) pass0 (pa_cons (pv 1) (pa_cons (pv 12) pa_nil))) pa_nil))))))))))) (pss_one (ps_ret pe_bl)) pss_nil)
    (pss_one (ps_set (i := 11) nd rfl (Or.inl rfl) (pe_op U.op_add (pv 11) (pe_callB U.c_len (by rfl) (f_free_len S) (by decide +kernel) (pa_cons (pe_ix (U.ix_any (hu_of hr)) (pe_ix (U.ix_any (hu_of hr)) (pe_ix (U.ix_any (hu_of hr)) (pv 2) pe_str (fun _ _ => rfl)) (pv 7) (fun _ _ => rfl)) pe_str (fun _ _ => rfl)) pa_nil)))))))))
    (pss_cons (ps_expr (U.pe_mt (g_Memory_settle S) (hr.mono (by decide)) pass0 (pv 3) (pa_cons (pv 11) pa_nil)))
    (pss_cons (ps_asg (pv 11) (pg_sub (pv 2) pe_str (U.set_any (hu_of hr))))
    (pss_cons (ps_lock (ps_for PassesOwn.never rfl (pi_keys (pe_ix (U.ix_any (hu_of hr)) (pv 2) pe_str (fun _ _ => rfl))) (pg_name (i := 7) nd rfl (Or.inl rfl)) (pss_one (ps_if (pt_not (U.pt_any (U.pe_fn (g__law_right S) (hr.mono (by decide)) pass0 (pa_cons (pv 2) (pa_cons (pv 3) (pa_cons (pv 7) pa_nil)))))) (pss_one (ps_ret pe_bl)) pss_nil))))
    (pss_cons (ps_set (i := 13) nd rfl (Or.inl rfl) (U.pe_fn (g_restored S) (hr.mono (by decide)) pass0 (pa_cons (U.pe_mt0 (g_Memory_state S) (hr.mono (by decide)) pass0 (pv 3)) pa_nil)))
    (pss_one (ps_ret (pe_and (pe_cmpR (U.op_eq hr.units) (U.pe_mt0 (g_Memory_end S) (hr.mono (by decide)) pass0 (pv 3)) (pv 11) (nomark _)) (pe_and (pe_cmpR (U.op_eq hr.units) (U.pe_mt0 (g_Memory_state S) (hr.mono (by decide)) pass0 (pv 13)) (U.pe_mt0 (g_Memory_state S) (hr.mono (by decide)) pass0 (pv 3)) (nomark _)) (pe_one (U.pe_fn (g__law_reserved S) (hr.mono (by decide)) pass0 (pa_cons (pv 2) (pa_cons (pv 13) (pa_cons (pe_op U.op_add pe_int (pe_op U.op_mod (pv 1) pe_int)) pa_nil))))))))))))))))))))
end
end G

namespace G
open PySem PySem.Spec PyProof.Rows L2
abbrev R : PySem.W.OpenRow := PySem.W.OpenLaw.row PySem.Challenge.rw_gleanworld_k89_large_memories
abbrev hk : PySem.W.Hook := He.hookD 4 fa fn
def ob (s : PySem.W.SharedT) : He.AlD := He.obsDG 4 fa fn (HandSHeadRun.getT s)
theorem ob_eq (s : PySem.W.SharedT) : ob s = hk.obs s.abs := He.obsDG_eq (HandSHeadRun.getT_eq s)
def loose : List PySem.Str := (["_wall", "__name__", "GleanError", "BadValue", "BadMemory", "NoRoom", "BadHandle", "BadCell", "BadMove", "MOST_CELLS", "MOST_SLOTS", "is_integer", "is_count", "is_handle", "is_value", "Entry", "Memory", "is_row", "is_sound", "is_state", "restored", "_law_cell", "_law_rich", "_law_reserved", "_law_filled", "_law_right", "_law_moved"] : List PySem.Str)
theorem run (w : World) : HandSHeadRun.RunEq R (PySem.W.view R.prog [30]) hk ob 4200 loose w := by
  intro os
  kernel_rfl
end G

open PySem PySem.W PySem.Calls PyProof.Rows
set_option maxRecDepth 100000 in
set_option maxHeartbeats 0 in
theorem PySem.Challenge.cw_gleanworld_k89_large_memories_holds : PySem.Challenge.rw_gleanworld_k89_large_memories.Holds := by
  w_on; o_law
  refine HandSHeadRun.head_any (r := OpenLaw.row PySem.Challenge.rw_gleanworld_k89_large_memories) (q := view (OpenLaw.row PySem.Challenge.rw_gleanworld_k89_large_memories).prog [30]) (H := G.hk) (ob := G.ob) (M := 4200) (loose := G.loose) (d := HandSHeadRun.topDef (OpenLaw.row PySem.Challenge.rw_gleanworld_k89_large_memories).prog 30) (kwd := []) G.ob_eq
    (by kernel_rfl) (fun s => by kernel_rfl) G.run (by kernel_rfl) (by kernel_rfl) (by kernel_rfl) (by rfl) (by first | assumption | decide +kernel) (by decide +kernel) ⟨rfl, rfl, rfl, rfl, rfl, by decide +kernel⟩ ?hw ?hc
  case hw => w_witness2
  case hc =>
    refine L2.walk_ofE (l := PySem.Challenge.rw_gleanworld_k89_large_memories) (n := 63) (k := 8) (x := "script") (CX := L2.CX0) rfl (by decide) (by kernel_rfl) ⟨rfl, by decide, by decide⟩ ?F (fun _ _ _ _ z => z)
    intro w mg fa h Y nm0 hmg0
    obtain ⟨K, KX, c⟩ := Y
    have hmg : mg ("law" : PySem.Str) = some (.ref fa) := by
      have e : (HandSHeadRun.topDef (OpenLaw.row PySem.Challenge.rw_gleanworld_k89_large_memories).prog 30).name = ("law" : PySem.Str) := by kernel_rfl
      rw [← e]
      exact hmg0
    have S : G.Sit K mg := ⟨c, h, KX, nm0⟩
    obtain ⟨fd, hb, hF⟩ := G.law_ok S
    cases hmg.symm.trans (G.f_glo_law S)
    exact ⟨K, fd, G.sp_law K, KX, hb, fun H a ns hl hO hS => G.law_spec hl hO hS, fun base _ _ => hF base⟩

