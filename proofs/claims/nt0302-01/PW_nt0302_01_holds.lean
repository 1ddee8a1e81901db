import PyProof.Rows.All
import Wide.All
import OpenK.AllK
import Wide.FinOn
import PySem.Challenge.RW_nt0302_01
set_option Elab.async false
set_option maxRecDepth 100000
set_option linter.all false
set_option genInjectivity false
set_option genSizeOf false
set_option bootstrap.genMatcherCode false
namespace Mine
open PySem PySem.W PyProof.Rows PySem.SeqAt
open _root_.PySem.Str renaming ofString → aa, ofString_eq_toList → bu
open _root_.Nat renaming le_trans → ab, le_add_right → ai, succ_le_succ → aj, le_refl → au, lt_of_lt_of_le → ax, add_le_add → aA, add_le_add_right → aC, le_of_add_right_le → aG, sub_add_cancel → aJ, le_add_left → aK, lt_of_le_of_lt → aL, le_of_ble_eq_true → aP, zero_add → aS, mul_le_mul_right → aT, le_of_eq → aW, zero_le → aY, add_assoc → aZ, mul_le_mul_left → a5, not_lt → a7, le_of_succ_le → bf, le_succ_of_le → bg, add_comm → bq, add_le_add_left → br, succ_add_eq_add_succ → bv, lt_succ_self → bw, le_of_not_lt → bz, lt_irrefl → bA, le_antisymm → bE, le_add_right_of_le → bL, le_succ → bO, lt_add_of_pos_right → co, lt_succ_of_le → cz, succ_pos → cK, add_sub_cancel_left → cQ, ne_of_lt → cY, le_of_succ_le_succ → cZ, lt_succ_iff_lt_or_eq → dg, min_eq_left → dt, add_lt_add_left → dy, add_sub_cancel → dJ, le_of_lt_succ → dY, add_sub_cancel' → ew, exists_eq_add_of_lt → eE, succ_add → eU, lt_succ_of_lt → fo, succ → fI, not_lt_zero → gc, not_le → gn, lt_of_le_of_ne → gr, sub_self → gT, le_of_lt → gU, succ_ne_zero → iG, not_succ_le_zero → iT, add_eq_zero_iff → jg, succ_mul → jo, le_of_add_le_add_right → jQ, le_total → l7, eq_of_beq_eq_true → nj, not_succ_le_self → oJ, le_zero → oK, sub_lt_sub_left → pQ, lt_of_succ_lt → rG, beq → rH, succ_lt_succ → tH, ble → uR, exists_eq_add_of_le' → xf, sub_zero → yq, sub_eq_zero_of_le → zk, lt_of_sub_ne_zero → zl, add_lt_add_right → Ae
open _root_.List renaming length_append → ac, append_assoc → ag, length_map → ah, mem_singleton → am, length_cons → ao, append_nil → ar, replicate → ay, map_append → aB, flatMap_cons → aF, getElem?_eq_getElem → aO, getElem?_eq_some_iff → aQ, mem_append_right → aR, size_toArray → aX, mem_append_left → ba, mem_cons → bc, length_replicate → be, mem_append → bk, getElem?_append_right → bp, nodup_cons → bt, getElem?_append_left → bG, not_mem_nil → bJ, length_nil → bK, length_pos_iff → bP, pairwise_singleton → bQ, getElem?_map → bR, flatten_cons → b6, mem_of_getElem? → cq, flatMap_nil → ct, flatten_append → cx, concat_eq_append → cF, map_cons → cG, toArray → cH, nil_append → cJ, length_set → c8, find?_cons → dj, append_ne_nil_of_right_ne_nil → dG, drop_eq_getElem_cons → dP, reverse_cons → dU, length → dV, length_reverse → er, length_eq_zero_iff → ey, flatten_singleton → eM, findIdx?_cons → eO, cons → eY, any_cons → eZ, eq_nil_or_concat → fb, getD_eq_getElem?_getD → fA, lookup_cons → fL, getElem?_eq_none_iff → fM, replicate_succ → fQ, flatMap_append → fR, getElem?_take_of_lt → fY, eq_of_mem_replicate → fZ, foldl_cons → f0, mem_map → gK, contains_iff_mem → ig, range → ij, length_drop → ik, drop_length → il, cons_ne_nil → io, all_eq_true → ip, getLast?_concat → iO, append_toArray → jf, map_map → ji, all_cons → ki, length_take → kU, getElem?_set_self → lB, drop_of_length_le → lC, take_append_drop → mv, getElem?_toArray → mw, take_left → nJ, nodup_nil → nK, mem_of_mem_take → nM, getLast?_append → nN, getElem?_set_ne → nO, getElem?_of_mem → nP, drop_left → nQ, dropLast_concat → nR, getElem?_drop → pS, append_ne_nil_of_left_ne_nil → qC, push_toArray → qS, find?_append → qT, eraseIdxIfInBounds_toArray → rI, take_length → r8, mem_flatMap → r9, flatten_nil → se, ext_getElem → sf, getElem?_replicate_of_lt → tI, getElem?_concat_length → uh, foldl → uS, exists_mem_of_ne_nil → vX, take_nil → vZ, map_take → wa, flatMap_eq_nil_iff → xg, take_of_length_le → xn, range_succ_eq_map → xo, map_nil → xp, filter_eq_nil_iff → xq, drop_eq_nil_of_le → xr, append_eq_nil_iff → xt, singleton_append → yr, getElem?_eq_none → yt, range' → zn, mem_of_mem_drop → zo, map → zp, length_take_le' → zq, drop_eq_nil_iff → zr, filterMap_cons → Af, zip_cons_cons → Aj
open _root_.Int renaming natCast_nonneg → av, toNat_of_nonneg → aE, not_lt → bh, ofNat_lt → bj, eq_ofNat_of_zero_le → bF, ofNat_le → bM, emod_nonneg → bV, toNat_natCast → b8, le_trans → b9, add_zero → ca, le_refl → cA, emod_lt_of_pos → cM, add_sub_cancel → cP, lt_irrefl → dF, mul_ediv_add_emod → dK, natCast_add → dW, le_antisymm → dX, not_le → eW, fmod_eq_emod_of_nonneg → fJ, add_le_add_right → fK, zero_add → fN, add_nonneg → gV, lt_or_gt_of_ne → jR, fdiv_eq_ediv_of_nonneg → jS, add_assoc → kI, ofNat → ly, natCast_succ → lA, le_of_lt → l9, le_of_eq → ma, lt_of_lt_of_le → qD, zero_mul → rK, toNat_lt → rM, sub_zero → rN, ediv_nonneg → uj, mul_ediv_cancel_left → xh, ne_of_lt → yu, lt_trans → yv, mul_add → Ag, le_of_lt_add_one → Ah
open _root_.Bool renaming and_eq_true → aD, or_eq_true → me, false_ne_true → pT, noConfusion → si, false_and → uT, and_false → uU, or_false → wb, false_eq_true → Am
open _root_.Option renaming isSome_iff_exists → aU, map_eq_some_iff → bo, bind_eq_some_iff → b7, some → cm, map_eq_none_iff → kT, isSome → oH, bind_some → qR, not_isSome_iff_eq_none → rF, isNone_iff_eq_none → ug
open _root_.Array renaming toList → xi
inductive E | v (i : Nat) | n (k : Nat) | a (x y : E) | m (k : Nat) (x : E) | s (x y : E) | g (x : E) | c (x : E)
noncomputable abbrev E.A := E.v 0
noncomputable abbrev E.B := E.v 1
noncomputable abbrev E.C := E.v 2
noncomputable abbrev E.D := E.v 3
noncomputable abbrev E.F := E.v 4
noncomputable abbrev E.G := E.v 5
noncomputable abbrev E.H := E.v 6
noncomputable abbrev E.O := E.n 0
noncomputable abbrev E.I := E.n 1
noncomputable def E.at {α : Type} (z : α) : Nat → List α → α
  | _, [] => z
  | 0, x :: _ => x
  | i + 1, _ :: X => E.at z i X
noncomputable def E.N (X : List Nat) : E → Nat
  | .v i => E.at 0 i X
  | .n k => k
  | .a x y => x.N X + y.N X
  | .m k x => k * x.N X
  | _ => 0
noncomputable def E.Z (X : List Nat) (Y : List Int) : E → Int
  | .v i => E.at 0 i Y
  | .n k => k
  | .a x y => x.Z X Y + y.Z X Y
  | .m k x => k * x.Z X Y
  | .s x y => x.Z X Y - y.Z X Y
  | .g x => - x.Z X Y
  | .c x => (x.N X : Int)
structure LF where
  k : Int
  p : List Int
  q : List Int
namespace LF
noncomputable def add : List Int → List Int → List Int
  | [], m => m
  | l, [] => l
  | a :: l, b :: m => (a + b) :: add l m
noncomputable def un : Nat → List Int
  | 0 => [1]
  | i + 1 => 0 :: un i
noncomputable def dot {α : Type} (f : α → Int) : List Int → List α → Int
  | [], _ => 0
  | _ :: _, [] => 0
  | a :: l, x :: X => a * f x + dot f l X
theorem dot_nil {α : Type} (f : α → Int) (l : List Int) : dot f l [] = 0 := by cases l <;> rfl
theorem vG {α : Type} (f : α → Int) : ∀ (l m : List Int) (X : List α), dot f (add l m) X = dot f l X + dot f m X
  | [], m, X => (fN _).symm
  | _ :: _, [], X => (ca _).symm
  | a :: l, b :: m, [] => rfl
  | a :: l, b :: m, x :: X => by show (a + b) * f x + _ = (a * f x + _) + (b * f x + _); rw [vG f l m X, Int.add_mul, kI, kI, Int.add_left_comm (b * f x)]
theorem vF {α : Type} (f : α → Int) (k : Int) : ∀ (l : List Int) (X : List α), dot f (l.map (k * ·)) X = k * dot f l X
  | [], X => (Int.mul_zero k).symm
  | a :: l, [] => (Int.mul_zero k).symm
  | a :: l, x :: X => by show (k * a) * f x + _ = k * (a * f x + _); rw [vF f k l X, Ag, Int.mul_assoc]
theorem dot_un {α : Type} (f : α → Int) (z : α) (h : f z = 0) : ∀ (i : Nat) (X : List α), dot f (un i) X = f (E.at z i X)
  | i, [] => by rw [dot_nil]; cases i <;> exact h.symm
  | 0, x :: X => by show 1 * f x + dot f [] X = f x; rw [Int.one_mul]; exact ca _
  | i + 1, x :: X => by show 0 * f x + dot f (un i) X = _; rw [rK, fN]; exact dot_un f z h i X
noncomputable def sum (x y : LF) : LF := ⟨x.k + y.k, add x.p y.p, add x.q y.q⟩
noncomputable def mul (k : Int) (x : LF) : LF := ⟨k * x.k, x.p.map (k * ·), x.q.map (k * ·)⟩
noncomputable def ev (X : List Nat) (Y : List Int) (x : LF) : Int := x.k + (dot (fun n : Nat => (n : Int)) x.p X + dot (fun i : Int => i) x.q Y)
theorem ev_sum {X : List Nat} {Y : List Int} (x y : LF) : (x.sum y).ev X Y = x.ev X Y + y.ev X Y := by
  show x.k + y.k + (dot _ (add x.p y.p) X + dot _ (add x.q y.q) Y) = (x.k + (_ + _)) + (y.k + (_ + _))
  rw [vG, vG]
  ac_rfl
theorem ev_mul {X : List Nat} {Y : List Int} (k : Int) (x : LF) : (x.mul k).ev X Y = k * x.ev X Y := by
  show k * x.k + (dot _ (x.p.map _) X + dot _ (x.q.map _) Y) = k * (x.k + (_ + _))
  rw [vF, vF, Ag, Ag]
noncomputable def neg (x : LF) : LF := x.mul (-1)
theorem ev_neg {X : List Nat} {Y : List Int} (x : LF) : x.neg.ev X Y = - x.ev X Y := (ev_mul _ x).trans (Int.neg_one_mul _)
noncomputable def ok (x : LF) : Bool := decide (0 ≤ x.k) && (x.p.all (fun a => decide (0 ≤ a)) && x.q.all (fun a => decide (a = 0)))
theorem yY : ∀ (l : List Int) (X : List Nat), l.all (fun a => decide (0 ≤ a)) = true → 0 ≤ dot (fun n : Nat => (n : Int)) l X
  | [], _, _ => cA 0
  | _ :: _, [], _ => cA 0
  | a :: l, x :: X, h => by
    rw [ki, aD] at h
    exact gV (Int.mul_nonneg (of_decide_eq_true h.1) (av x)) (yY l X h.2)
theorem wO : ∀ (l : List Int) (Y : List Int), l.all (fun a => decide (a = 0)) = true → dot (fun i : Int => i) l Y = 0
  | [], _, _ => rfl
  | _ :: _, [], _ => rfl
  | a :: l, x :: X, h => by
    rw [ki, aD] at h
    show a * x + _ = 0
    rw [wO l X h.2, of_decide_eq_true h.1, rK]; rfl
theorem ev_ok {X : List Nat} {Y : List Int} {x : LF} (h : x.ok = true) : 0 ≤ x.ev X Y := by
  rw [ok, aD, aD] at h
  exact gV (of_decide_eq_true h.1) (gV (yY _ _ h.2.1) (ma (wO _ _ h.2.2).symm))
end LF
noncomputable def E.ln : E → LF
  | .v i => ⟨0, LF.un i, []⟩
  | .n k => ⟨k, [], []⟩
  | .a x y => x.ln.sum y.ln
  | .m k x => x.ln.mul k
  | _ => ⟨0, [], []⟩
noncomputable def E.lz : E → LF
  | .v i => ⟨0, [], LF.un i⟩
  | .n k => ⟨k, [], []⟩
  | .a x y => x.lz.sum y.lz
  | .m k x => x.lz.mul k
  | .s x y => x.lz.sum y.lz.neg
  | .g x => x.lz.neg
  | .c x => x.ln
theorem E.ln_ok {X : List Nat} {Y : List Int} (x : E) : x.ln.ev X Y = (x.N X : Int) := by
  induction x with
  | v i => exact (fN _).trans ((ca _).trans (LF.dot_un _ 0 rfl i X))
  | n k => exact ca _
  | a x y h h' => exact (LF.ev_sum _ _).trans (by rw [h, h']; rfl)
  | m k x h => exact (LF.ev_mul _ _).trans (by rw [h]; rfl)
  | _ => rfl
theorem E.lz_ok {X : List Nat} {Y : List Int} (x : E) : x.lz.ev X Y = x.Z X Y := by
  induction x with
  | v i => exact (fN _).trans ((fN _).trans (LF.dot_un _ 0 rfl i Y))
  | n k => exact ca _
  | a x y h h' => exact (LF.ev_sum _ _).trans (by rw [h, h']; rfl)
  | m k x h => exact (LF.ev_mul _ _).trans (by rw [h]; rfl)
  | s x y h h' => exact (LF.ev_sum _ _).trans (by rw [LF.ev_neg, h, h']; rfl)
  | g x h => exact (LF.ev_neg _).trans (by rw [h]; rfl)
  | c x => exact E.ln_ok x
inductive Q | le | eq | qe | Le | Eq | Qe
noncomputable def Q.den (X : List Nat) (Y : List Int) (x y : E) : Q → Prop
  | .le => x.N X ≤ y.N X
  | .eq => x.N X = y.N X
  | .qe => y.N X = x.N X
  | .Le => x.Z X Y ≤ y.Z X Y
  | .Eq => x.Z X Y = y.Z X Y
  | .Qe => y.Z X Y = x.Z X Y
noncomputable def LF.sub (y x : LF) : LF := y.sum x.neg
noncomputable def E.df (x y : E) : Bool → LF
  | false => y.ln.sub x.ln
  | true => y.lz.sub x.lz
noncomputable def Q.int : Q → Bool
  | .le => false
  | .eq => false
  | .qe => false
  | _ => true
theorem LF.ev_sub {X : List Nat} {Y : List Int} {x y : LF} : (y.sub x).ev X Y = y.ev X Y - x.ev X Y := (LF.ev_sum _ _).trans (congrArg _ (LF.ev_neg _))
theorem E.dn {X : List Nat} {Y : List Int} {x y : E} : 0 ≤ (E.df x y false).ev X Y ↔ x.N X ≤ y.N X := by
  show 0 ≤ LF.ev X Y (LF.sub _ _) ↔ _
  rw [LF.ev_sub, E.ln_ok, E.ln_ok, Int.sub_nonneg, bM]
theorem E.dz {X : List Nat} {Y : List Int} {x y : E} : 0 ≤ (E.df x y true).ev X Y ↔ x.Z X Y ≤ y.Z X Y := by
  show 0 ≤ LF.ev X Y (LF.sub _ _) ↔ _
  rw [LF.ev_sub, E.lz_ok, E.lz_ok, Int.sub_nonneg]
theorem Q.up {X : List Nat} {Y : List Int} {x y : E} : ∀ {q : Q}, q.den X Y x y → 0 ≤ (E.df x y q.int).ev X Y
  | .le, h => E.dn.mpr h
  | .eq, h => E.dn.mpr (aW h)
  | .qe, h => E.dn.mpr (aW h.symm)
  | .Le, h => E.dz.mpr h
  | .Eq, h => E.dz.mpr (ma h)
  | .Qe, h => E.dz.mpr (ma h.symm)
noncomputable def Q.iq : Q → Bool
  | .le => false
  | .Le => false
  | _ => true
theorem Q.pu {X : List Nat} {Y : List Int} {x y : E} : ∀ {q : Q}, q.iq = true → q.den X Y x y → 0 ≤ (E.df y x q.int).ev X Y
  | .eq, _, h => E.dn.mpr (aW h.symm)
  | .qe, _, h => E.dn.mpr (aW h)
  | .Eq, _, h => E.dz.mpr (ma h.symm)
  | .Qe, _, h => E.dz.mpr (ma h)
inductive S | h (q : Q) (x y : E) (r : S) | p (x y : E) | P (x y : E) | o (x y : E) | O (x y : E) | f
noncomputable def S.den (X : List Nat) (Y : List Int) : S → Prop
  | .h q x y r => q.den X Y x y → r.den X Y
  | .p x y => x.N X ≤ y.N X
  | .P x y => x.Z X Y ≤ y.Z X Y
  | .o x y => x.N X = y.N X
  | .O x y => x.Z X Y = y.Z X Y
  | .f => False
noncomputable def S.ck (z : Bool) (l m : LF) : S → Bool
  | .h q x y r => r.ck (z && q.iq) (l.sum (E.df x y q.int)) (m.sum (E.df y x q.int))
  | .p x y => (LF.sub (E.df x y false) l).ok
  | .P x y => (LF.sub (E.df x y true) l).ok
  | .o x y => z && ((LF.sub (E.df x y false) l).ok && (LF.sub (E.df y x false) m).ok)
  | .O x y => z && ((LF.sub (E.df x y true) l).ok && (LF.sub (E.df y x true) m).ok)
  | .f => (LF.sub ⟨-1, [], []⟩ l).ok
theorem LF.from {X : List Nat} {Y : List Int} {l m : LF} (h : 0 ≤ l.ev X Y) (c : (m.sub l).ok = true) : 0 ≤ m.ev X Y := b9 h (Int.le_of_sub_nonneg (LF.ev_sub ▸ LF.ev_ok c))
theorem LF.up {X : List Nat} {Y : List Int} {l m : LF} (h : 0 ≤ l.ev X Y) (c : 0 ≤ m.ev X Y) : 0 ≤ (l.sum m).ev X Y := LF.ev_sum _ _ ▸ gV h c
theorem iF {a b : Bool} (h : (a && b) = true) : a = true ∧ b = true := (aD a b).mp h
theorem S.go {X : List Nat} {Y : List Int} (s : S) : ∀ {z : Bool} {l m : LF}, 0 ≤ l.ev X Y → (z = true → 0 ≤ m.ev X Y) → s.ck z l m = true → s.den X Y := by
  induction s with
  | h q x y r ih => exact fun h h' c d => ih (LF.up h (Q.up d)) (fun e => LF.up (h' (iF e).1) (Q.pu (iF e).2 d)) c
  | p x y => exact fun h _ c => E.dn.mp (LF.from h c)
  | P x y => exact fun h _ c => E.dz.mp (LF.from h c)
  | o x y => exact fun h h' c => bE (E.dn.mp (LF.from h (iF (iF c).2).1)) (E.dn.mp (LF.from (h' (iF c).1) (iF (iF c).2).2))
  | O x y => exact fun h h' c => dX (E.dz.mp (LF.from h (iF (iF c).2).1)) (E.dz.mp (LF.from (h' (iF c).1) (iF (iF c).2).2))
  | f => exact fun h _ c => absurd (LF.from (X := X) (Y := Y) h c) (by show ¬ (0 ≤ (-1 : Int) + 0); decide)
theorem rf : true = true := rfl
theorem aH (s : S) (c : s.ck true ⟨0, [], []⟩ ⟨0, [], []⟩ = true) (X : List Nat) (Y : List Int) : s.den X Y := s.go (l := ⟨0, [], []⟩) (m := ⟨0, [], []⟩) (cA 0) (fun _ => cA 0) c
noncomputable abbrev S.l := S.h .le
noncomputable abbrev S.t (x y : E) := S.h .le (.a x .I) y
noncomputable abbrev S.e := S.h .eq
noncomputable abbrev S.i := S.h .qe
noncomputable abbrev S.L := S.h .Le
noncomputable abbrev S.T (x y : E) := S.h .Le (.a x .I) y
noncomputable abbrev S.u := S.h .Eq
noncomputable abbrev S.w := S.h .Qe
noncomputable abbrev S.q (x y : E) := S.p (.a x .I) y
noncomputable abbrev S.Q (x y : E) := S.P (.a x .I) y
theorem na {i : Int} : i ≤ i.natAbs ∧ -i ≤ i.natAbs := ⟨Int.le_natAbs, Int.natAbs_neg i ▸ Int.le_natAbs⟩
theorem sbl {a b : Nat} : a ≤ a - b + b := Nat.sub_le_iff_le_add.mp (au _)
inductive D where
  | none
  | bool (b : Bool)
  | int (i : Int)
  | str (s : String)
  | bytes (b : List UInt8)
  | tup (l : List D)
  | lst (l : List D)
  | inst (C : Nat) (l : List D)
  | rng (a b c : Int)
  | ty (n : String)
inductive V where
  | un
  | d (x : D)
  | hd (k : Nat)
inductive MO where
  | list (l : List D)
  | hls (l : List Nat)
  | imap (m : Int → Option Int) (n : Nat)
  | bmap (m : List UInt8 → Option Int) (n : Nat)
  | tmap (m : List UInt8 → Option Int) (n : Nat)
  | inst (C : Nat) (l : List V)
  | frz (x : D)
inductive All2 {α β : Type} (P : α → β → Prop) : List α → List β → Prop
  | nil : All2 P [] []
  | cons {a b l m} : P a b → All2 P l m → All2 P (a :: l) (b :: m)
namespace All2
variable {α β : Type} {P Q : α → β → Prop} {l : List α} {m : List β}
theorem imp (h : ∀ a b, P a b → Q a b) (x : All2 P l m) : All2 Q l m := by
  induction x with
  | nil => exact .nil
  | cons a _ ih => exact .cons (h _ _ a) ih
theorem length (x : All2 P l m) : m.length = l.length := by
  induction x with
  | nil => rfl
  | cons _ _ ih => exact congrArg (· + 1) ih
theorem append {l' : List α} {m' : List β} (x : All2 P l m) (y : All2 P l' m') : All2 P (l ++ l') (m ++ m') := by
  induction x with
  | nil => exact y
  | cons a _ ih => exact .cons a ih
theorem get (x : All2 P l m) : ∀ {i : Nat} {a : α}, l[i]? = some a → ∃ b, m[i]? = some b ∧ P a b := by
  induction x with
  | nil => exact fun e => (nomatch e)
  | cons p _ ih => exact fun {i a} e => match i, e with | 0, e => ⟨_, rfl, cm.inj e ▸ p⟩ | i + 1, e => ih (i := i) e
theorem at_ (x : All2 P l m) {i : Nat} {a : α} {b : β} (h : l[i]? = some a) (h' : m[i]? = some b) : P a b := by
  obtain ⟨_, e, p⟩ := x.get h
  exact cm.inj (e.symm.trans h') ▸ p
theorem drop (x : All2 P l m) : ∀ n : Nat, All2 P (l.drop n) (m.drop n) := by
  induction x with
  | nil => exact fun n => by rw [List.drop_nil, List.drop_nil]; exact .nil
  | cons p q ih => exact fun n => match n with | 0 => .cons p q | n + 1 => ih n
theorem take (x : All2 P l m) : ∀ n : Nat, All2 P (l.take n) (m.take n) := by
  induction x with
  | nil => exact fun n => by rw [vZ, vZ]; exact .nil
  | cons p q ih => exact fun n => match n with | 0 => .nil | n + 1 => .cons p (ih n)
theorem set {a : α} {b : β} (h : P a b) (x : All2 P l m) : ∀ n : Nat, All2 P (l.set n a) (m.set n b) := by
  induction x with
  | nil => exact fun _ => .nil
  | cons p q ih => exact fun n => match n with | 0 => .cons h q | n + 1 => .cons p (ih n)
theorem rep (x : All2 P l m) : ∀ k : Nat, All2 P (ay k l).flatten (ay k m).flatten
  | 0 => .nil
  | k + 1 => x.append (rep x k)
theorem reverse (x : All2 P l m) : All2 P l.reverse m.reverse := by
  induction x with
  | nil => exact .nil
  | cons a _ ih => rw [dU, dU]; exact ih.append (.cons a .nil)
theorem map {γ : Type} {f : γ → α} {l : List γ} : ∀ {m : List β}, All2 P (l.map f) m → All2 (fun c b => P (f c) b) l m := by
  induction l with
  | nil => intro m x; cases x; exact .nil
  | cons c l ih => intro m x; cases x with | cons a b => exact .cons a (ih b)
@[elab_as_elim] theorem un {a : α} {M : List β → Prop} (x : All2 P (a :: l) m) (k : ∀ b m, P a b → All2 P l m → M (b :: m)) : M m := by cases x with | cons a b => exact k _ _ a b
@[elab_as_elim] theorem un0 {M : List β → Prop} (x : All2 P [] m) (k : M []) : M m := by cases x; exact k
end All2
noncomputable abbrev Fz := Addr → Option Obj
noncomputable def Ak (G G' : Fz) : Prop := ∀ a o, G a = some o → G' a = some o
noncomputable abbrev iv (vs : List Value) (_n : Nat) : Obj := { cls := .type "tuple", data := .seq vs.toArray }
noncomputable abbrev AH (a b c : Int) (t u v : Tok) : Obj := { cls := .type "range", data := .fields #[.int a t, .int b u, .int c v] }
noncomputable def layS (C : Nat) : List String := match C with
  | 108 => ["size", "known"]
  | 150 => ["a_from", "a_to", "b_from", "b_to"]
  | 183 => ["known", "strange", "count"]
  | 281 => ["a", "b", "gone", "come"]
  | 359 => ["word", "base", "ours", "theirs"]
  | 401 => ["lines", "changes", "at", "shift"]
  | _ => []
noncomputable def xk (C : Nat) : List Str := (layS C).map aa
inductive Keyed : List Str → List DictEntry → List Value → Prop
  | nil {ns} : Keyed ns [] []
  | cons {n ns h t v es vs} : Keyed ns es vs → Keyed (n :: ns) (⟨h, .str n t, v⟩ :: es) (v :: vs)
inductive Rep (G : Fz) : D → Value → Prop
  | none : Rep G .none .none
  | bool (b) : Rep G (.bool b) (.bool b)
  | int (i t) : Rep G (.int i) (.int i t)
  | str (x t) : Rep G (.str x) (.str (aa x) t)
  | bytes {b} (t) (z : b.length ≤ 16777216) : Rep G (.bytes b) (.bytes b.toArray t)
  | tup {l a n vs} (g : G a = some (iv vs n)) (z : l.length ≤ 16777216) (r : All2 (Rep G) l vs) : Rep G (.tup l) (.ref a)
  | lst {l a n vs} (g : G a = some (listOf vs.toArray n)) (z : l.length ≤ 16777216) (r : All2 (Rep G) l vs) : Rep G (.lst l) (.ref a)
  | inst {C l a dx n es vs} (g : G a = some (instObj C dx)) (g' : G dx = some (dictOf es n)) (k : Keyed (xk C) es vs) (r : All2 (Rep G) l vs) : Rep G (.inst C l) (.ref a)
  | rng {a b c x t u w} (g : G x = some (AH a b c t u w)) : Rep G (.rng a b c) (.ref x)
  | ty (n) : Rep G (.ty n) (.type n)
theorem Rep.mono {G G' : Fz} (k : Ak G G') {x : D} {v : Value} (h : Rep G x v) : Rep G' x v := by
  refine Rep.rec (motive_1 := fun x v _ => Rep G' x v) (motive_2 := fun l vs _ => All2 (Rep G') l vs) .none .bool .int .str (fun t z => .bytes t z) ?_ ?_ ?_ (fun g => .rng (k _ _ g)) .ty .nil (fun _ _ a b => .cons a b) h
  · exact fun g z _ r => .tup (k _ _ g) z r
  · exact fun g z _ r => .lst (k _ _ g) z r
  · exact fun g g' kk _ r => .inst (k _ _ g) (k _ _ g') kk r
section
variable {G : Fz} {v : Value} {P : Value → Prop}
@[elab_as_elim] theorem Rep.none_ (h : Rep G .none v) (k : P .none) : P v := by cases h; exact k
@[elab_as_elim] theorem Rep.bool_ {b} (h : Rep G (.bool b) v) (k : P (.bool b)) : P v := by cases h; exact k
@[elab_as_elim] theorem Rep.int_ {i} (h : Rep G (.int i) v) (k : ∀ t, P (.int i t)) : P v := by cases h; exact k _
@[elab_as_elim] theorem Rep.str_ {x} (h : Rep G (.str x) v) (k : ∀ t, P (.str (aa x) t)) : P v := by cases h; exact k _
@[elab_as_elim] theorem Rep.bytes_ {b} (h : Rep G (.bytes b) v) (k : b.length ≤ 16777216 → ∀ t, P (.bytes b.toArray t)) : P v := by cases h with | bytes t z => exact k z t
@[elab_as_elim] theorem Rep.tup_ {l} (h : Rep G (.tup l) v) (k : ∀ a vs n, G a = some (iv vs n) → l.length ≤ 16777216 → All2 (Rep G) l vs → P (.ref a)) : P v := by cases h with | tup g z r => exact k _ _ _ g z r
@[elab_as_elim] theorem Rep.lst_ {l} (h : Rep G (.lst l) v) (k : ∀ a vs n, G a = some (listOf vs.toArray n) → l.length ≤ 16777216 → All2 (Rep G) l vs → P (.ref a)) : P v := by cases h with | lst g z r => exact k _ _ _ g z r
@[elab_as_elim] theorem Rep.inst_ {C l} (h : Rep G (.inst C l) v) (k : ∀ a dx n es vs, G a = some (instObj C dx) → G dx = some (dictOf es n) → Keyed (xk C) es vs → All2 (Rep G) l vs → P (.ref a)) : P v := by cases h with | inst g g' kk r => exact k _ _ _ _ _ g g' kk r
@[elab_as_elim] theorem Rep.rng_ {a b c} (h : Rep G (.rng a b c) v) (k : ∀ x t u w, G x = some (AH a b c t u w) → P (.ref x)) : P v := by cases h with | rng g => exact k _ _ _ _ g
@[elab_as_elim] theorem Rep.ty_ {n} (h : Rep G (.ty n) v) (k : P (.type n)) : P v := by cases h; exact k
end
theorem Rep.lift {G : Fz} {d : D} {v : Value} (h : Rep (fun _ => Option.none) d v) : Rep G d v := h.mono fun _ _ e => by cases e
noncomputable abbrev rD := List (Addr × Addr)
noncomputable def PLe (φ φ' : rD) : Prop := ∀ (k : Nat) (p : Addr × Addr), φ[k]? = some p → φ'[k]? = some p
inductive RepV (G : Fz) (φ : rD) : V → Value → Prop
  | d {x v} (r : Rep G x v) : RepV G φ (.d x) v
  | hd {k p} (e : φ[k]? = some p) : RepV G φ (.hd k) (.ref p.1)
theorem RepV.mono {G G' : Fz} {φ φ' : rD} (k : Ak G G') (p : PLe φ φ') {x : V} {v : Value} (h : RepV G φ x v) : RepV G' φ' x v := by
  induction h using RepV.casesOn with
  | d r => exact .d (r.mono k)
  | hd e => exact .hd (p _ _ e)
@[elab_as_elim] theorem RepV.hd_ {G : Fz} {φ : rD} {k : Nat} {v : Value} {P : Value → Prop} (h : RepV G φ (.hd k) v) (q : ∀ p, φ[k]? = some p → P (.ref p.1)) : P v := by cases h with | hd e => exact q _ e
theorem RepV.data {G : Fz} {φ : rD} {x : D} {v : Value} (h : RepV G φ (.d x) v) : Rep G x v := by cases h with | d r => exact r
structure TopOk (K : Frag) (h : Heap) : Prop where
  k : K.In h
  b : ∃ mb, h.Ns builtinsNs mb ∧ ∀ x : Str, x ≠ "__name__" → mb x = bootBuiltins x
  g : ∃ mg, h.Ns mainGlobals mg
  lim : h.NoLimit
  sys : ∃ mm, h.Ns sysModules mm
theorem TopOk.keeps {K : Frag} {h h' : Heap} (T : TopOk K h) (k : ∀ b o, h.get? b = some o → h'.get? b = some o) : TopOk K h' :=
  ⟨T.k.keeps k, let ⟨mb, a, b⟩ := T.b; ⟨mb, a.keeps k, b⟩, let ⟨mg, a⟩ := T.g; ⟨mg, a.keeps k⟩, T.lim.keeps k, let ⟨mm, a⟩ := T.sys; ⟨mm, a.keeps k⟩⟩
structure Wd where
  prog : Program
  w : World
  K : Frag
noncomputable abbrev Wd.M (W : Wd) : Model := model W.prog W.w
inductive tN (p : Addr × Addr) : MO → Addr → Prop
  | list {l} : tN p (.list l) p.1
  | hls {l} : tN p (.hls l) p.1
  | imap {m n} : tN p (.imap m n) p.1
  | bmap {m n} : tN p (.bmap m n) p.1
  | tmap {m n} : tN p (.tmap m n) p.1
  | inst {C l} : tN p (.inst C l) p.1
  | flds {C l} : tN p (.inst C l) p.2
inductive IntAt (i : Int) : Value → Prop | mk (t) : IntAt i (.int i t)
inductive OptAt : Option Int → Option Value → Prop
  | none : OptAt none none
  | some {i v} (h : IntAt i v) : OptAt (some i) (some v)
theorem OptAt.isSome {m : Option Int} {g : Option Value} (h : OptAt m g) : g.isSome = m.isSome := by induction h using OptAt.casesOn <;> rfl
noncomputable def isFb : Option (List UInt8) → Value → Bool
  | none, .bool b => !b
  | some k, .bytes b _ => b.toList == k
  | _, _ => false
theorem gP {k : Option (List UInt8)} {v : Value} (h : isFb k v = true) : (k = none ∧ v = .bool false) ∨ ∃ b t, k = some b ∧ v = .bytes b.toArray t := by
  induction k using Option.casesOn with
  | none =>
    induction v using PySem.Value.casesOn <;> first | cases h | skip
    rename_i b; induction b using Bool.casesOn
    · exact .inl ⟨rfl, rfl⟩
    · cases h
  | some k =>
    induction v using PySem.Value.casesOn <;> first | cases h | skip
    exact .inr ⟨_, _, rfl, by rw [← beq_iff_eq.mp h]⟩
section
variable {A : Around} {s : Shared}
theorem o5 (a : Bool) (b : Array UInt8) (u : Tok) : Gives (Builtin.«int.__eq__» ⟨[.bool a, .bytes b u], []⟩) (.val (Value.notImplemented)) :=
  .of_wp fun M A E s Q h => by obtain ⟨hp, g, d, tk, os⟩ := s; wp_walk; exact ⟨_, rfl, h⟩
theorem nE (b : Array UInt8) (u : Tok) (a : Bool) : Gives (Builtin.«bytes.__eq__» ⟨[.bytes b u, .bool a], []⟩) (.val (Value.notImplemented)) := by
  refine .of_wp fun M A E s Q hq => ?_
  show wpAny M A (isInstance (.bool a) (.type "bytes") >>= fun r => _) _ E s
  have ht : s.TypeIs (.bool a) "bool" := rfl
  refine wpAny_bind (wpAny_isInstance ht F.sub_bool_bytes ?_)
  refine wpAny_bind (wpAny_isInstance ht F.sub_bool_bytes ?_)
  exact wpAny_bind (wpAny_rule (wpAny_pure ⟨_, rfl, hq⟩))
theorem iW : Slot "bytes" (cmpInfo .Eq).2.2 "bytes.__eq__" := FB.slot_bytes_eq
theorem RcAt.bool_bytes (a : Bool) (b : Array UInt8) (u : Tok) : RcAt A s (.bool a) (.bytes b u) false := fun prog w E Q h =>
  rc_eq_decline_or (k := false) rfl (typeIs_bytes s b u) (by decide) F.sub_bytes_bool F.slot_bool_eq iW
    (fun _ hq => call_gives F.slot_bool_eq rfl F.entry_int_eq (F.args_int_eq_2 _ _) (o5 a b u) hq)
    (fun _ hq => call_gives iW (typeIs_bytes s b u) FB.entry_bytes_eq (FB.args_bytes_eq_2 _ _) (nE b u a) hq)
    (fun _ hq => wpAny_of_eq (rfl : isSame (.bool a) (.bytes b u) = pure false) hq) (.inl rfl) h
theorem RcAt.bytes_bool (b : Array UInt8) (u : Tok) (a : Bool) : RcAt A s (.bytes b u) (.bool a) false := fun prog w E Q h =>
  rc_eq_decline_or (k := false) (typeIs_bytes s b u) rfl (by decide) F.sub_bool_bytes FB.slot_bytes_eq F.slot_bool_eq_refl
    (fun _ hq => call_gives FB.slot_bytes_eq (typeIs_bytes s b u) FB.entry_bytes_eq (FB.args_bytes_eq_2 _ _) (nE b u a) hq)
    (fun _ hq => call_gives F.slot_bool_eq_refl rfl F.entry_int_eq (F.args_int_eq_2 _ _) (o5 a b u) hq)
    (fun _ hq => wpAny_of_eq (rfl : isSame (.bytes b u) (.bool a) = pure false) hq) (.inl rfl) h
theorem EqAt.bool_bytes (a : Bool) (b : Array UInt8) (u : Tok) : EqAt A s (.bool a) (.bytes b u) false := fun prog w E Q h => by
  unfold eqBool
  refine wpAny_holding ?_
  refine wpAny_ite_split (fun hab => absurd (eq_of_beq hab) nofun) (fun _ => ?_)
  exact wpAny_bind (RcAt.bool_bytes a b u prog w E _ (wpAny_truthy_bool h))
theorem EqAt.bytes_bool (b : Array UInt8) (u : Tok) (a : Bool) : EqAt A s (.bytes b u) (.bool a) false := fun prog w E Q h => by
  unfold eqBool
  refine wpAny_holding ?_
  refine wpAny_ite_split (fun hab => absurd (eq_of_beq hab) nofun) (fun _ => ?_)
  exact wpAny_bind (RcAt.bytes_bool b u a prog w E _ (wpAny_truthy_bool h))
end
theorem i9 (prog : Program) (w : World) (x : List UInt8) (t : Tok) : (bytesKind prog w).is x (.bytes x.toArray t) = true := beq_self_eq_true x
noncomputable def fbKind (prog : Program) (w : World) : KeyKind prog w (Option (List UInt8)) where
  is := isFb
  hash k := match k with | none => reduceHash 0 | some b => (bytesKind prog w).hash b
  inj v a b ha hb := by
    rcases gP ha with ⟨rfl, rfl⟩ | ⟨x, t, rfl, rfl⟩ <;> rcases gP hb with ⟨rfl, e⟩ | ⟨y, u, rfl, e⟩ <;> cases e <;> rfl
  byValue k v h := by rcases gP h with ⟨rfl, rfl⟩ | ⟨x, t, rfl, rfl⟩ <;> rfl
  pyHash := fun {A E s k v Q} hv h => by
    rcases gP hv with ⟨rfl, rfl⟩ | ⟨x, t, rfl, rfl⟩
    · refine pyHash_slot (T := "bool") rfl F.slot_bool_hash entry_int_hash (args_int_hash _) (beq_builtin_none _) (.inl rfl) ?_
      exact (show wpAny _ _ (do ret (← mkInt 0)) _ _ s from wpAny_bind (wpAny_mkInt (wpAny_pure ⟨_, _, rfl, h⟩)))
    · exact (bytesKind prog w).pyHash (i9 _ _ _ _) h
  eqBool := fun {A E s a b u v Q} hu hv h => by
    rcases gP hu with ⟨rfl, rfl⟩ | ⟨x, t, rfl, rfl⟩ <;> rcases gP hv with ⟨rfl, rfl⟩ | ⟨y, u, rfl, rfl⟩
    · exact EqAt.bool_bool false false prog w E Q h
    · exact EqAt.bool_bytes false _ _ prog w E Q h
    · exact EqAt.bytes_bool _ _ false prog w E Q h
    · exact (bytesKind prog w).eqBool (i9 _ _ _ _) (i9 _ _ _ _) (by rwa [show decide (x = y) = decide ((some x : Option (List UInt8)) = some y) from decide_eq_decide.mpr ⟨congrArg _, cm.inj⟩])
  «strs» k x t v h := by induction k using Option.casesOn <;> cases h
noncomputable def oU (prog : Program) (w : World) : HeapKind prog w (List (Option (List UInt8))) := tupleKind (fbKind prog w)
inductive MOk (W : Wd) (G : Fz) (φ : rD) (h : Heap) (p : Addr × Addr) : MO → Prop
  | list {l vs n} (g : h.get? p.1 = some (listOf vs.toArray n)) (z : l.length ≤ 16777216) (r : All2 (Rep G) l vs) : MOk W G φ h p (.list l)
  | hls {l vs n} (g : h.get? p.1 = some (listOf vs.toArray n)) (z : l.length ≤ 16777216) (r : All2 (fun k => RepV G φ (.hd k)) l vs) : MOk W G φ h p (.hls l)
  | imap {m n f} (g : h.MapOf (intKind W.prog W.w) p.1 f) (e : ∀ k, OptAt (m k) (f k)) (z : h.DictLe p.1 n) : MOk W G φ h p (.imap m n)
  | bmap {m n kvs} (g : h.DictOf (bytesKind W.prog W.w) p.1 kvs) (z : kvs.length = n) (e : ∀ k, OptAt (m k) (valueAt kvs k)) : MOk W G φ h p (.bmap m n)
  | tmap {m n o es c xs} (g : h.get? p.1 = some o) (ex : o.ExactDict) (d : o.data = .dict es c) (e : es.toList = xs.map (entryOfKey (oU W.prog W.w))) (ks : ∀ x ∈ xs, ∃ b t z, x.1 = [none, some b] ∧ G x.2.1 = some (iv [.bool false, .bytes b.toArray t] z))
      (nd : (xs.map (·.1)).Nodup) (z : xs.length ≤ n) (v : ∀ k, OptAt (m k) ((atKey xs [none, some k]).map (·.2))) : MOk W G φ h p (.tmap m n)
  | inst {C l es n vs} (g : h.get? p.1 = some (instObj C p.2)) (g' : h.get? p.2 = some (dictOf es n)) (k : Keyed (xk C) es vs) (r : All2 (RepV G φ) l vs) (ne : p.1 ≠ p.2) : MOk W G φ h p (.inst C l)
  | frz {x} (r : Rep G x (.ref p.1)) : MOk W G φ h p (.frz x)
section
variable {W : Wd} {G : Fz} {φ : rD} {h : Heap} {p : Addr × Addr}
theorem MOk.list_ {l} {P : Prop} (m : MOk W G φ h p (.list l)) (k : ∀ vs n, h.get? p.1 = some (listOf vs.toArray n) → l.length ≤ 16777216 → All2 (Rep G) l vs → P) : P := by cases m with | list g z r => exact k _ _ g z r
theorem MOk.inst_ {C l} {P : Prop} (m : MOk W G φ h p (.inst C l)) (k : ∀ es n vs, h.get? p.1 = some (instObj C p.2) → h.get? p.2 = some (dictOf es n) → Keyed (xk C) es vs → All2 (RepV G φ) l vs → p.1 ≠ p.2 → P) : P := by cases m with | inst g g' kk r ne => exact k _ _ _ g g' kk r ne
theorem MOk.frz_ {x} (m : MOk W G φ h p (.frz x)) : Rep G x (.ref p.1) := by cases m with | frz r => exact r
theorem MOk.imap_ {m n} {P : Prop} (o : MOk W G φ h p (.imap m n)) (k : ∀ f, h.MapOf (intKind W.prog W.w) p.1 f → (∀ k, OptAt (m k) (f k)) → h.DictLe p.1 n → P) : P := by cases o with | imap g e z => exact k _ g e z
theorem MOk.bmap_ {m n} {P : Prop} (o : MOk W G φ h p (.bmap m n)) (k : ∀ kvs, h.DictOf (bytesKind W.prog W.w) p.1 kvs → kvs.length = n → (∀ k, OptAt (m k) (valueAt kvs k)) → P) : P := by cases o with | bmap g z e => exact k _ g z e
end
structure Cf where
  G : Fz
  φ : rD
  σ : List MO
  s : Shared
inductive eK (φ : rD) (σ : List MO) (k : Nat) (a : Addr) : Prop
  | mk {p mo} (hp : φ[k]? = some p) (hm : σ[k]? = some mo) (o : tN p mo a)
noncomputable def tJ (φ : rD) (σ : List MO) (b : Addr) : Prop := ∃ k, eK φ σ k b
structure RelH (W : Wd) (c : Cf) : Prop where
  base : ∃ hb, TopOk W.K hb ∧ ∀ a o, hb.get? a = some o → c.G a = some o
  fz : ∀ a o, c.G a = some o → c.s.heap.get? a = some o
  len : c.φ.length = c.σ.length
  objs : ∀ {k : Nat} {p mo}, c.φ[k]? = some p → c.σ[k]? = some mo → MOk W c.G c.φ c.s.heap p mo
  one : ∀ {a k k'}, eK c.φ c.σ k a → eK c.φ c.σ k' a → k = k'
  off : ∀ {a k}, eK c.φ c.σ k a → c.G a = none ∧ (c.s.heap.get? a).isSome
theorem RelH.top {W : Wd} {c : Cf} (R : RelH W c) : TopOk W.K c.s.heap := let ⟨_, T, k⟩ := R.base; T.keeps fun b o e => R.fz _ _ (k b o e)
structure Ev (X : List Addr) (c c' : Cf) : Prop where
  s : c'.s = { c.s with heap := c'.s.heap, toks := c'.s.toks }
  g : Ak c.G c'.G
  p : PLe c.φ c'.φ
  keep : ∀ b o, b ∉ X → ¬ tJ c.φ c.σ b → c.s.heap.get? b = some o → c'.s.heap.get? b = some o
  alive : ∀ b ∈ X, (c.s.heap.get? b).isSome → (c'.s.heap.get? b).isSome
  mine : ∀ b, tJ c'.φ c'.σ b → tJ c.φ c.σ b ∨ c.s.heap.get? b = none
  ice : ∀ b, (c'.G b).isSome → (c.G b).isSome ∨ tJ c.φ c.σ b ∨ c.s.heap.get? b = none
theorem Ev.refl (X c) : Ev X c c := ⟨rfl, fun _ _ e => e, fun _ _ e => e, fun _ _ _ _ e => e, fun _ _ e => e, fun _ m => .inl m, fun _ e => .inl e⟩
section
variable {W : Wd} {X : List Addr} {c c₁ c₂ : Cf}
theorem Ev.gone (x : Ev X c c₁) {b : Addr} (q : c₁.s.heap.get? b = none) : tJ c.φ c.σ b ∨ c.s.heap.get? b = none := by
  cases e : c.s.heap.get? b with
  | none => exact .inr rfl
  | some o =>
    refine .inl (Classical.byContradiction fun n => ?_)
    by_cases z : b ∈ X
    · have := x.alive b z (e ▸ rfl); rw [q] at this; cases this
    · cases q.symm.trans (x.keep b o z n e)
theorem Ev.trans (x : Ev X c c₁) (y : Ev X c₁ c₂) : Ev X c c₂ :=
  ⟨by rw [y.s, x.s], fun a o e => y.g a o (x.g a o e), fun k p e => y.p k p (x.p k p e), fun b o z n e => y.keep b o z (fun m => (x.mine b m).elim n fun q => nomatch q.symm.trans e) (x.keep b o z n e), fun b z e => y.alive b z (x.alive b z e),
    fun b m => (y.mine b m).elim (x.mine b) x.gone, fun b m => (y.ice b m).elim (x.ice b) fun q => .inr (q.elim (x.mine b) x.gone)⟩
structure Go (X : List Addr) (W : Wd) (c c' : Cf) : Prop extends Ev X c c' where
  H : RelH W c'
theorem Go.trans (x : Go X W c c₁) (y : Go X W c₁ c₂) : Go X W c c₂ := ⟨x.toEv.trans y.toEv, y.H⟩
theorem RelH.go (R : RelH W c) : Go X W c c := ⟨Ev.refl _ _, R⟩
noncomputable abbrev Cf.to (c : Cf) (h : Heap) (k : Nat) : Cf := ⟨c.G, c.φ, c.σ, { c.s with heap := h, toks := k }⟩
theorem MOk.keeps {G G' : Fz} {φ φ' : rD} {h h' : Heap} {p : Addr × Addr} {mo : MO} (H : MOk W G φ h p mo) (kG : Ak G G') (kP : PLe φ φ')
    (k : ∀ b, tN p mo b → h'.get? b = h.get? b) : MOk W G' φ' h' p mo := by
  induction H using MOk.casesOn with
  | list g z r => exact .list ((k _ .list).trans g) z (r.imp fun _ _ => Rep.mono kG)
  | hls g z r => exact .hls ((k _ .hls).trans g) z (r.imp fun _ _ => RepV.mono kG kP)
  | imap g e z => exact .imap (let ⟨o, es, ep, ho, r⟩ := g; ⟨o, es, ep, (k _ .imap).trans ho, r⟩) e fun o es ep q => z o es ep ((k _ .imap).symm.trans q)
  | bmap g z e => exact .bmap (let ⟨o, es, ep, ho, r⟩ := g; ⟨o, es, ep, (k _ .bmap).trans ho, r⟩) z e
  | tmap g ex d e ks nd z v => exact .tmap ((k _ .tmap).trans g) ex d e (fun x m => let ⟨b, t, z, e, g⟩ := ks x m; ⟨b, t, z, e, kG _ _ g⟩) nd z v
  | inst g g' kk r ne => exact .inst ((k _ .inst).trans g) ((k _ .flds).trans g') kk (r.imp fun _ _ => RepV.mono kG kP) ne
  | frz r => exact .frz (r.mono kG)
theorem gi {h h' : Heap} (k : ∀ b o, h.get? b = some o → h'.get? b = some o) {b : Addr} (e : (h.get? b).isSome) : (h'.get? b).isSome := let ⟨_, e⟩ := aU.mp e; k _ _ e ▸ rfl
theorem u7 {h h' : Heap} {b : Addr} (k : ∀ o, h.get? b = some o → h'.get? b = some o) (e : (h.get? b).isSome) : h'.get? b = h.get? b := let ⟨_, e⟩ := aU.mp e; (k _ e).trans e.symm
theorem RelH.but (R : RelH W c) {h : Heap} {k : Nat} (Y : List Addr) (hY : ∀ a ∈ Y, ¬ tJ c.φ c.σ a ∧ c.G a = none) (kp : ∀ b o, b ∉ Y → c.s.heap.get? b = some o → h.get? b = some o) : RelH W (c.to h k) where
  base := R.base
  fz a o e := kp _ _ (fun m => nomatch (hY a m).2.symm.trans e) (R.fz a o e)
  len := R.len
  objs a b := (R.objs a b).keeps (fun _ _ e => e) (fun _ _ e => e) fun x m => u7 (fun o e => kp x o (fun q => (hY x q).1 ⟨_, a, b, m⟩) e) (R.off ⟨a, b, m⟩).2
  one := R.one
  off m := ⟨(R.off m).1, let ⟨o, e⟩ := aU.mp (R.off m).2; kp _ o (fun q => (hY _ q).1 ⟨_, m⟩) e ▸ rfl⟩
theorem RelH.goBut (R : RelH W c) {h : Heap} {k : Nat} (Y : List Addr) (hY : ∀ a ∈ Y, ¬ tJ c.φ c.σ a ∧ c.G a = none) (kp : ∀ b o, b ∉ Y → c.s.heap.get? b = some o → h.get? b = some o) (al : ∀ b ∈ Y, (h.get? b).isSome) : Go Y W c (c.to h k) :=
  ⟨⟨rfl, fun _ _ e => e, fun _ _ e => e, fun b o n _ e => kp b o n e, fun b m _ => al b m, fun _ m => .inl m, fun _ e => .inl e⟩, R.but Y hY kp⟩
theorem RelH.more (R : RelH W c) {h : Heap} {k : Nat} (kp : ∀ b o, c.s.heap.get? b = some o → h.get? b = some o) : Go X W c (c.to h k) :=
  ⟨⟨rfl, fun _ _ e => e, fun _ _ e => e, fun b o _ _ e => kp b o e, fun _ _ e => gi kp e, fun _ m => .inl m, fun _ e => .inl e⟩, R.but [] (fun _ m => nomatch m) fun b o _ => kp b o⟩
theorem RelH.tick (R : RelH W c) (k : Nat) : Go X W c (c.to c.s.heap k) := R.more fun _ _ e => e
theorem RelH.clean (R : RelH W c) {a : Addr} (ha : c.s.heap.get? a = none) : c.G a = none ∧ ¬ tJ c.φ c.σ a := by
  refine ⟨?_, fun ⟨k, m⟩ => ?_⟩
  · cases e : c.G a with
    | none => rfl
    | some x => exact nomatch ha.symm.trans (R.fz _ _ e)
  · have := (R.off m).2; rw [ha] at this; cases this
noncomputable def Fz.put (G : Fz) (a : Addr) (o : Obj) : Fz := fun b => if b = a then some o else G b
theorem Fz.put_self (G : Fz) (a : Addr) (o : Obj) : G.put a o a = some o := if_pos rfl
theorem Fz.put_ne {G : Fz} {a b : Addr} {o : Obj} (h : b ≠ a) : G.put a o b = G b := if_neg h
theorem Fz.put_le {G : Fz} {a : Addr} {o : Obj} (h : G a = none) : Ak G (G.put a o) := fun b x e => (Fz.put_ne fun q => by subst q; cases h.symm.trans e).trans e
theorem RelH.ice (R : RelH W c) {a : Addr} {o : Obj} {h : Heap} {k : Nat} (ha : c.s.heap.get? a = none) (ho : h.get? a = some o) (kp : ∀ b o, c.s.heap.get? b = some o → h.get? b = some o) :
    Go X W c ⟨c.G.put a o, c.φ, c.σ, { c.s with heap := h, toks := k }⟩ := by
  obtain ⟨hG, hn⟩ := R.clean ha
  have kG : Ak c.G (c.G.put a o) := Fz.put_le hG
  have R' := (R.more (X := X) (k := k) kp).H
  refine ⟨⟨rfl, kG, fun _ _ e => e, fun b o _ _ e => kp b o e, fun _ _ e => gi kp e, fun _ m => .inl m, fun b e => ?_⟩,
    ⟨let ⟨hb, T, q⟩ := R.base; ⟨hb, T, fun b x e => kG _ _ (q b x e)⟩, fun b x e => ?_, R.len, fun a b => (R'.objs a b).keeps kG (fun _ _ e => e) fun _ _ => rfl, R.one, fun {b j} m => ⟨(Fz.put_ne fun q : b = a => hn ⟨j, q ▸ m⟩).trans (R.off m).1, (R'.off m).2⟩⟩⟩
  · by_cases q : b = a
    · exact .inr (.inr (q ▸ ha))
    · exact .inl ((Fz.put_ne q (G := c.G) (o := o)) ▸ e)
  · by_cases q : b = a
    · subst q; exact ho.trans ((Fz.put_self c.G b o).symm.trans e)
    · exact R'.fz b x ((Fz.put_ne q).symm.trans e)
theorem r7 {α : Type} {l : List α} {x y : α} {i : Nat} (h : (l ++ [x])[i]? = some y) : l[i]? = some y ∨ (i = l.length ∧ x = y) := by
  by_cases hi : i < l.length
  · rw [bG hi] at h; exact .inl h
  · rw [bp (a7.mp hi)] at h
    cases e : i - l.length with
    | zero => rw [e] at h; cases h; exact .inr ⟨bE (Nat.le_of_sub_eq_zero e) (a7.mp hi), rfl⟩
    | succ n => rw [e] at h; cases h
theorem l0 {α : Type} {l m : List α} {y : α} {i : Nat} (h : l[i]? = some y) : (l ++ m)[i]? = some y := (bG (aQ.mp h).1).trans h
theorem jP {α : Type} {l m : List α} {y : α} : (l ++ y :: m)[l.length]? = some y := by rw [bp (au _), gT]; rfl
theorem RelH.new (R : RelH W c) {p : Addr × Addr} {mo : MO} {h : Heap} {k : Nat} (kp : ∀ b o, c.s.heap.get? b = some o → h.get? b = some o) (hn : ∀ b, tN p mo b → c.s.heap.get? b = none ∧ (h.get? b).isSome)
    (hm : MOk W c.G (c.φ ++ [p]) h p mo) : Go X W c ⟨c.G, c.φ ++ [p], c.σ ++ [mo], { c.s with heap := h, toks := k }⟩ := by
  have R' := (R.more (X := X) (k := k) kp).H
  have kP : PLe c.φ (c.φ ++ [p]) := fun _ _ e => l0 e
  have wh : ∀ {b j}, eK (c.φ ++ [p]) (c.σ ++ [mo]) j b → eK c.φ c.σ j b ∨ (j = c.φ.length ∧ tN p mo b) := fun {b j} ⟨hp, hq, o⟩ => by
    rcases r7 hp with a | ⟨a, rfl⟩ <;> rcases r7 hq with b | ⟨b, rfl⟩
    · exact .inl ⟨a, b, o⟩
    · exact absurd (aQ.mp a).1 (by rw [b, R.len]; exact bA _)
    · exact absurd (aQ.mp b).1 (by rw [a, R.len]; exact bA _)
    · exact .inr ⟨a, o⟩
  have ap : ∀ {b j}, eK c.φ c.σ j b → ¬ tN p mo b := fun m o => by have := (R.off m).2; rw [(hn _ o).1] at this; cases this
  refine ⟨⟨rfl, fun _ _ e => e, kP, fun b o _ _ e => kp b o e, fun _ _ e => gi kp e, fun b ⟨j, m⟩ => (wh m).elim (fun q => .inl ⟨_, q⟩) fun q => .inr (hn b q.2).1, fun _ e => .inl e⟩,
    ⟨R.base, R'.fz, by rw [ac, ac, R.len]; rfl, fun {i q m} a b => ?_, fun {a k k'} x y => ?_, fun {b j} m => ?_⟩⟩
  · rcases r7 a with a' | ⟨a', rfl⟩ <;> rcases r7 b with b' | ⟨b', rfl⟩
    · exact (R'.objs a' b').keeps (fun _ _ e => e) kP fun _ _ => rfl
    · exact absurd (aQ.mp a').1 (by rw [b', R.len]; exact bA _)
    · exact absurd (aQ.mp b').1 (by rw [a', R.len]; exact bA _)
    · exact hm
  · rcases wh x with x | x <;> rcases wh y with y | y
    · exact R.one x y
    · exact (ap x y.2).elim
    · exact (ap y x.2).elim
    · exact x.1.trans y.1.symm
  · rcases wh m with m | m
    · exact R'.off m
    · exact ⟨(R.clean (hn b m.2).1).1, (hn b m.2).2⟩
theorem vU {α : Type} {l : List α} {i k : Nat} {x y : α} (h : (l.set k x)[i]? = some y) : (i = k ∧ x = y) ∨ (i ≠ k ∧ l[i]? = some y) := by
  by_cases e : i = k
  · subst e
    rw [lB ((c8 ..).symm ▸ (aQ.mp h).1)] at h
    exact .inl ⟨rfl, cm.inj h⟩
  · rw [nO (Ne.symm e)] at h; exact .inr ⟨e, h⟩
theorem RelH.upd (R : RelH W c) {k : Nat} {p : Addr × Addr} {mo mo' : MO} {h : Heap} {tk : Nat} (h1 : c.φ[k]? = some p) (h2 : c.σ[k]? = some mo) (e : ∀ b, tN p mo' b ↔ tN p mo b)
    (kp : ∀ b o, ¬ tN p mo b → c.s.heap.get? b = some o → h.get? b = some o) (kn : ∀ b, tN p mo b → (h.get? b).isSome) (hm : MOk W c.G c.φ h p mo') :
    Go X W c ⟨c.G, c.φ, c.σ.set k mo', { c.s with heap := h, toks := tk }⟩ := by
  have wh : ∀ {b j}, eK c.φ (c.σ.set k mo') j b → eK c.φ c.σ j b := fun {b j} ⟨hp, hq, o⟩ => by
    rcases vU hq with ⟨rfl, rfl⟩ | ⟨_, q⟩
    · cases h1.symm.trans hp; exact ⟨h1, h2, (e b).mp o⟩
    · exact ⟨hp, q, o⟩
  have al : ∀ b, (c.s.heap.get? b).isSome → (h.get? b).isSome := fun b z => by
    by_cases q : tN p mo b
    · exact kn b q
    · obtain ⟨o, z⟩ := aU.mp z; exact kp b o q z ▸ rfl
  refine ⟨⟨rfl, fun _ _ e => e, fun _ _ e => e, fun b o _ n g => kp b o (fun m => n ⟨k, h1, h2, m⟩) g, fun b _ z => al b z, fun b ⟨j, m⟩ => .inl ⟨j, wh m⟩, fun _ g => .inl g⟩,
    ⟨R.base, fun a o g => kp a o (fun m => ?_) (R.fz a o g), by rw [c8]; exact R.len, fun {i q m} a b => ?_, fun x y => R.one (wh x) (wh y), fun m => ⟨(R.off (wh m)).1, al _ (R.off (wh m)).2⟩⟩⟩
  · exact nomatch (R.off ⟨h1, h2, m⟩).1.symm.trans g
  · rcases vU b with ⟨rfl, rfl⟩ | ⟨ne, b⟩
    · cases h1.symm.trans a; exact hm
    · exact (R.objs a b).keeps (fun _ _ e => e) (fun _ _ e => e) fun x o => u7 (fun z => kp x z fun o' => ne (R.one ⟨a, b, o⟩ ⟨h1, h2, o'⟩)) (R.off ⟨a, b, o⟩).2
theorem RelH.frz (R : RelH W c) {k : Nat} {p : Addr × Addr} {mo : MO} {x : D} {G' : Fz} (h1 : c.φ[k]? = some p) (h2 : c.σ[k]? = some mo)
    (hG : ∀ a, (tN p mo a ∧ G' a = c.s.heap.get? a) ∨ (¬ tN p mo a ∧ G' a = c.G a)) (hx : Rep G' x (.ref p.1)) : Go X W c ⟨G', c.φ, c.σ.set k (.frz x), c.s⟩ := by
  have kG : Ak c.G G' := fun a o g => by
    rcases hG a with ⟨m, _⟩ | ⟨_, q⟩
    · exact nomatch (R.off ⟨h1, h2, m⟩).1.symm.trans g
    · exact q.trans g
  have wh : ∀ {b j}, eK c.φ (c.σ.set k (.frz x)) j b → eK c.φ c.σ j b ∧ j ≠ k := fun {b j} ⟨hp, hq, o⟩ => by
    rcases vU hq with ⟨rfl, rfl⟩ | ⟨n, q⟩
    · cases o
    · exact ⟨⟨hp, q, o⟩, n⟩
  refine ⟨⟨rfl, kG, fun _ _ e => e, fun b o _ _ g => g, fun _ _ g => g, fun b ⟨j, m⟩ => .inl ⟨j, (wh m).1⟩, fun b g => ?_⟩,
    ⟨let ⟨hb, T, q⟩ := R.base; ⟨hb, T, fun b x e => kG _ _ (q b x e)⟩, fun a o g => ?_, by rw [c8]; exact R.len, fun {i q m} a b => ?_, fun x y => R.one (wh x).1 (wh y).1, fun {b j} m => ?_⟩⟩
  · rcases hG b with ⟨m, _⟩ | ⟨_, q⟩
    · exact .inr (.inl ⟨k, h1, h2, m⟩)
    · exact .inl (q ▸ g)
  · rcases hG a with ⟨_, q⟩ | ⟨_, q⟩
    · exact q.symm.trans g
    · exact R.fz _ _ (q.symm.trans g)
  · rcases vU b with ⟨rfl, rfl⟩ | ⟨ne, b⟩
    · cases h1.symm.trans a; exact .frz hx
    · exact (R.objs a b).keeps kG (fun _ _ e => e) fun _ _ => rfl
  · obtain ⟨m, n⟩ := wh m
    rcases hG b with ⟨m', _⟩ | ⟨_, q⟩
    · exact (n (R.one m ⟨h1, h2, m'⟩)).elim
    · exact ⟨q.trans (R.off m).1, (R.off m).2⟩
end
@[reducible] noncomputable def iQ : Nat → List V → V
  | _, [] => .un
  | 0, v :: _ => v
  | i + 1, _ :: r => iQ i r
@[reducible] noncomputable def kV : Nat → V → List V → List V
  | _, _, [] => []
  | 0, v, _ :: r => v :: r
  | i + 1, v, u :: r => u :: kV i v r
theorem uC {v : V} : ∀ {i j : Nat} {ρ : List V}, iQ j (kV i v ρ) ≠ .un → (j = i ∧ iQ j (kV i v ρ) = v) ∨ (j ≠ i ∧ iQ j (kV i v ρ) = iQ j ρ)
  | i, j, [], h => (h (by induction i using Nat.casesOn <;> induction j using Nat.casesOn <;> rfl)).elim
  | 0, 0, _ :: _, h => .inl ⟨rfl, rfl⟩
  | 0, j + 1, _ :: _, h => .inr ⟨nofun, rfl⟩
  | i + 1, 0, _ :: _, h => .inr ⟨nofun, rfl⟩
  | i + 1, j + 1, _ :: r, h => (uC (i := i) (j := j) (ρ := r) h).imp (fun ⟨a, b⟩ => ⟨congrArg _ a, b⟩) fun ⟨a, b⟩ => ⟨fun e => a (fI.inj e), b⟩
theorem ko {a b : String} (h : aa a = aa b) : a = b := by
  rw [bu, bu] at h
  injection h with h; injection h with h
  exact String.toList_injective ((List.map_inj_right fun c d e => Char.ext (UInt32.toNat_inj.mp e)).mp h)
noncomputable def VarAt (env : Env) (h : Heap) (x : Str) (v : Value) : Prop :=
  (env.kindOf x = some .local ∧ ∃ m, h.Ns env.locals m ∧ m x = some v) ∨
  ((env.kindOf x = some .cell ∨ env.kindOf x = some .free) ∧ ∃ c, env.cells.lookup x = some c ∧ h.IsCell c (some v))
noncomputable def fa (env : Env) : List Addr := env.locals :: env.cells.map (·.2)
theorem gO {x : Str} {c : Addr} : ∀ {l : List (Str × Addr)}, l.lookup x = some c → (x, c) ∈ l
  | (y, d) :: r, h => by
    rw [fL] at h
    cases e : x == y with
    | true => rw [e] at h; cases h; rw [eq_of_beq e]; exact .head _
    | false => rw [e] at h; exact .tail _ (gO h)
theorem mq {env : Env} {x : Str} {c : Addr} (h : env.cells.lookup x = some c) : c ∈ fa env := .tail _ (gK.mpr ⟨_, gO h, rfl⟩)
theorem VarAt.keeps {env : Env} {h h' : Heap} {x : Str} {v : Value} (H : VarAt env h x v) (k : ∀ b ∈ fa env, ∀ o, h.get? b = some o → h'.get? b = some o) : VarAt env h' x v :=
  H.imp (fun ⟨a, m, ⟨o, es, ep, ho, r⟩, b⟩ => ⟨a, m, ⟨o, es, ep, k _ (.head _) _ ho, r⟩, b⟩) fun ⟨a, c, b, o, ho, r⟩ => ⟨a, c, b, o, k _ (mq b) _ ho, r⟩
structure FrmOk (env : Env) (h : Heap) : Prop where
  ns : ∃ m, h.Ns env.locals m
  cell : ∀ x c, env.cells.lookup x = some c → ∃ v, h.IsCell c v
theorem FrmOk.keeps {env : Env} {h h' : Heap} (F : FrmOk env h) (k : ∀ b ∈ fa env, ∀ o, h.get? b = some o → h'.get? b = some o) : FrmOk env h' :=
  ⟨let ⟨m, o, es, ep, ho, r⟩ := F.ns; ⟨m, o, es, ep, k _ (.head _) _ ho, r⟩, fun x c e => let ⟨v, o, ho, r⟩ := F.cell x c e; ⟨v, o, k _ (mq e) _ ho, r⟩⟩
structure Off (c : Cf) (a : Addr) : Prop where
  own : ¬ tJ c.φ c.σ a
  ice : c.G a = none
  alive : (c.s.heap.get? a).isSome
theorem Off.go {X : List Addr} {W : Wd} {c c' : Cf} {a : Addr} (o : Off c a) (g : Go X W c c') : Off c' a := by
  have nf : ¬ (c.s.heap.get? a = none) := fun z => by have := o.alive; rw [z] at this; cases this
  refine ⟨fun q => (g.mine a q).elim o.own nf, ?_, ?_⟩
  · cases q : c'.G a with
    | none => rfl
    | some x => rcases g.ice a (q ▸ rfl) with z | z
                · rw [o.ice] at z; cases z
                · exact (z.elim o.own nf).elim
  · cases q : c'.s.heap.get? a with
    | none => exact ((g.gone q).elim o.own nf).elim
    | some x => rfl
structure RelF (W : Wd) (env : Env) (xs : List Str) (ρ : List V) (c : Cf) : Prop where
  H : RelH W c
  frm : FrmOk env c.s.heap
  off : ∀ a ∈ fa env, Off c a
  vars : ∀ i x, xs[i]? = some x → iQ i ρ ≠ .un → ∃ v, VarAt env c.s.heap x v ∧ RepV c.G c.φ (iQ i ρ) v
section
variable {W : Wd} {env : Env} {xs : List Str} {ρ : List V} {c c₁ : Cf} {X Y : List Addr}
theorem RelF.go (R : RelF W env xs ρ c) (g : Go [] W c c₁) : RelF W env xs ρ c₁ where
  H := g.H
  frm := R.frm.keeps fun b m o e => g.keep b o nofun (R.off b m).own e
  off a m := (R.off a m).go g
  vars i x hx n := let ⟨v, a, b⟩ := R.vars i x hx n; ⟨v, a.keeps fun b m o e => g.keep b o nofun (R.off b m).own e, b.mono g.g g.p⟩
theorem RelF.but (R : RelF W env xs ρ c) {h : Heap} {k : Nat} (hY : ∀ a ∈ Y, Off c a ∧ a ∉ fa env) (kp : ∀ b o, b ∉ Y → c.s.heap.get? b = some o → h.get? b = some o) : RelF W env xs ρ (c.to h k) where
  H := R.H.but Y (fun a m => ⟨(hY a m).1.own, (hY a m).1.ice⟩) kp
  frm := R.frm.keeps fun b m o e => kp b o (fun q => (hY b q).2 m) e
  off a m := ⟨(R.off a m).own, (R.off a m).ice, let ⟨o, e⟩ := aU.mp (R.off a m).alive; kp a o (fun q => (hY a q).2 m) e ▸ rfl⟩
  vars i x hx n := let ⟨v, a, b⟩ := R.vars i x hx n; ⟨v, a.keeps fun b m o e => kp b o (fun q => (hY b q).2 m) e, b⟩
theorem Go.wide (g : Go X W c c₁) (hXY : ∀ b ∈ X, b ∈ Y) (hY : ∀ b ∈ Y, ¬ tJ c.φ c.σ b) : Go Y W c c₁ :=
  ⟨⟨g.s, g.g, g.p, fun b o n1 n2 e => g.keep b o (fun m => n1 (hXY b m)) n2 e, fun b m e => by
    by_cases q : b ∈ X
    · exact g.alive b q e
    · exact let ⟨o, e⟩ := aU.mp e; g.keep b o q (hY b m) e ▸ rfl, g.mine, g.ice⟩, g.H⟩
theorem Go.fr (g : Go [] W c c₁) (R : RelF W env xs ρ c) : Go (fa env) W c c₁ := g.wide nofun fun b m => (R.off b m).own
theorem Go.less {h : Heap} {k : Nat} (kp : ∀ b o, c.s.heap.get? b = some o → h.get? b = some o) (g : Go Y W (c.to h k) c₁) (hY : ∀ b ∈ Y, b ∈ X ∨ c.s.heap.get? b = none) (hX : ∀ b ∈ X, b ∈ Y) : Go X W c c₁ := by
  have kn : ∀ b, h.get? b = none → c.s.heap.get? b = none := fun b e => by
    cases q : c.s.heap.get? b with
    | none => rfl
    | some o => exact nomatch e.symm.trans (kp b o q)
  exact ⟨⟨by rw [g.s], g.g, g.p, fun b o n1 n2 e => g.keep b o (fun m => (hY b m).elim n1 fun q => nomatch q.symm.trans e) n2 (kp b o e), fun b m e => g.alive b (hX b m) (gi kp e), fun b m => (g.mine b m).imp id (kn b), fun b e => (g.ice b e).imp id (Or.imp id (kn b))⟩, g.H⟩
theorem Go.butNew (g : Go X W c c₁) {h : Heap} {k : Nat} (hY : ∀ b ∈ Y, Off c₁ b ∧ b ∉ X ∧ (¬ tJ c.φ c.σ b → c.s.heap.get? b = none)) (kp : ∀ b o, b ∉ Y → c₁.s.heap.get? b = some o → h.get? b = some o) : Go X W c (c₁.to h k) :=
  ⟨⟨congrArg (fun s : Shared => { s with heap := h, toks := k }) g.s, g.g, g.p, fun b o n1 n2 e => kp b o (fun m => nomatch ((hY b m).2.2 n2).symm.trans e) (g.keep b o n1 n2 e), fun b m e => by
    obtain ⟨o, e⟩ := aU.mp (g.alive b m e)
    exact kp b o (fun q => (hY b q).2.1 m) e ▸ rfl, g.mine, g.ice⟩, g.H.but Y (fun a m => ⟨(hY a m).1.own, (hY a m).1.ice⟩) kp⟩
end
structure EnvOk (sc : Scope) (env : Env) : Prop where
  scope : env.scope = sc
  glob : env.globals = mainGlobals
  blt : env.builtins = builtinsNs
  kind : sc.kind = .function
  apart : ∀ x c, env.cells.lookup x = some c → c ≠ env.locals
  inj : ∀ x y c, env.cells.lookup x = some c → env.cells.lookup y = some c → x = y
  celled : ∀ x, sc.names.lookup x = some .cell ∨ sc.names.lookup x = some .free → ∃ c, env.cells.lookup x = some c
  nodebug : sc.names.lookup (aa "__debug__") = none
  noclsdict : sc.names.lookup (aa "__classdict__") = none
structure Ok (n : Nat) (A : Around) : Prop where
  handled : A.handled = none
  depth : A.depth + 2 * n ≤ 980
  units : A.units + 20 * n ≤ 9800
theorem Ok.units1 {n : Nat} {A : Around} (h : Ok n A) (k : Nat := 0) (hk : k ≤ 99 := by decide) : A.units + k < cLine := aL (aA (ab (ai _ _) h.units) hk) (by decide)
structure Fr (n : Nat) (sc : Scope) (env : Env) (A : Around) : Prop where
  E : EnvOk sc env
  A : Ok n A
noncomputable abbrev eS : Value → Shared → Prop := fun _ _ => False
structure Wp {α : Type} (W : Wd) (A : Around) (t : Sem α) (Q : α → Shared → Prop) (s : Shared) : Prop where
  run : wpAny W.M A t Q eS s
inductive Post {α : Type} (X : List Addr) (W : Wd) (c : Cf) (R : α → Cf → Prop) (a : α) : Shared → Prop
  | mk {c'} (g : Go X W c c') (r : R a c') : Post X W c R a c'.s
inductive Val (Q : V → List MO → Prop) (v : Value) (c : Cf) : Prop
  | mk {x} (r : RepV c.G c.φ x v) (q : Q x c.σ)
section
variable {W : Wd} {A : Around} {α : Type} {X : List Addr} {c c₁ : Cf} {Q : V → List MO → Prop} {v : Value}
theorem Post.then {R : α → Cf → Prop} {a : α} {s : Shared} (p : Post X W c₁ R a s) (g : Go X W c c₁) : Post X W c R a s := by induction p using Post.casesOn with | mk g' r => exact .mk (g.trans g') r
theorem AK (g : Go X W c c₁) {x : V} (r : RepV c₁.G c₁.φ x v) (q : Q x c₁.σ) : Post X W c (Val Q) v c₁.s := .mk g (.mk r q)
theorem cj (R : RelH W c) {k : Nat} {x : D} (r : Rep c.G x v) (q : Q (.d x) c.σ) : Post X W c (Val Q) v { c.s with toks := k } := .mk (R.tick k) (.mk (.d r) q)
theorem dw (R : RelH W c) {x : V} (r : RepV c.G c.φ x v) (q : Q x c.σ) : Post X W c (Val Q) v c.s := .mk R.go (.mk r q)
theorem mh (R : RelH W c) {h : Heap} {k : Nat} {x : D} (kp : ∀ b o, c.s.heap.get? b = some o → h.get? b = some o) (r : Rep c.G x v) (q : Q (.d x) c.σ) : Post X W c (Val Q) v { c.s with heap := h, toks := k } := .mk (R.more kp) (.mk (.d r) q)
theorem bC (h : Heap) (o : Obj) : ∀ b x, h.get? b = some x → (h.push o).get? b = some x := fun _ _ e => Heap.get?_push_of_some o e
theorem b5 (h : Heap) : h.get? h.objs.size = none := by
  cases e : h.get? h.objs.size with
  | none => rfl
  | some o => exact absurd (Heap.lt_size e) (bA _)
theorem sH (R : RelH W c) {x : D} {o : Obj} {h : Heap} {a : Addr} {k : Nat} (ha : c.s.heap.get? a = none) (ho : h.get? a = some o) (kp : ∀ b o, c.s.heap.get? b = some o → h.get? b = some o)
    (r : ∀ G', Ak c.G G' → G' a = some o → Rep G' x (.ref a)) (q : Q (.d x) c.σ) : Post X W c (Val Q) (.ref a) { c.s with heap := h, toks := k } :=
  have g := R.ice ha ho kp
  .mk g (.mk (.d (r _ g.g (Fz.put_self _ _ _))) q)
theorem mj (R : RelH W c) {l : List D} {vs : List Value} {h : Heap} {a : Addr} {n k : Nat} (ha : c.s.heap.get? a = none) (ho : h.get? a = some (listOf vs.toArray n)) (kp : ∀ b o, c.s.heap.get? b = some o → h.get? b = some o)
    (z : l.length ≤ 16777216) (r : All2 (Rep c.G) l vs) (q : Q (.hd c.σ.length) (c.σ ++ [.list l])) : Post X W c (Val Q) (.ref a) { c.s with heap := h, toks := k } :=
  .mk (R.new (p := (a, a)) (mo := .list l) kp (fun b o => by cases o; exact ⟨ha, ho ▸ rfl⟩) (.list ho z r)) (.mk (.hd (p := (a, a)) (by rw [← R.len]; exact jP)) q)
theorem oT (R : RelH W c) {l : List D} {vs : List Value} {h : Heap} {a : Addr} {n k : Nat} (ha : c.s.heap.get? a = none) (ho : h.get? a = some (listOf vs.toArray n)) (kp : ∀ b o, c.s.heap.get? b = some o → h.get? b = some o)
    (z : l.length ≤ 16777216) (r : All2 (Rep c.G) l vs) (q : Q (.d (.lst l)) c.σ) : Post X W c (Val Q) (.ref a) { c.s with heap := h, toks := k } :=
  sH R ha ho kp (fun _ kG e => .lst e z (r.imp fun _ _ => Rep.mono kG)) q
theorem Wp.mono {t : Sem α} {Q Q' : α → Shared → Prop} {s : Shared} (h : Wp W A t Q s) (k : ∀ a s', Q a s' → Q' a s') : wpAny W.M A t Q' eS s := wpAny_mono h.run k fun _ _ q => q
theorem Wp.post {t : Sem α} {R : α → Cf → Prop} {Q' : α → Shared → Prop} (h : Wp W A t (Post X W c R) c.s) (k : ∀ a c', Go X W c c' → R a c' → Q' a c'.s) : wpAny W.M A t Q' eS c.s := h.mono fun a s' p => by induction p using Post.casesOn with | mk g r => exact k a _ g r
theorem Wp.then {t : Sem α} {R : α → Cf → Prop} {s : Shared} (h : Wp W A t (Post X W c₁ R) s) (g : Go X W c c₁) : wpAny W.M A t (Post X W c R) eS s := h.mono fun _ _ p => p.then g
end
noncomputable abbrev VQ := V → List MO → Prop
noncomputable abbrev BQ := Bool → List MO → Prop
noncomputable abbrev LQ := List V → List MO → Prop
noncomputable abbrev EX := List V → List MO → VQ → Prop
noncomputable abbrev TX := List V → List MO → BQ → Prop
structure SemX (W : Wd) (sc : Scope) (xs : List Str) (n : Nat) (e : Expr) (x : EX) : Prop where
  run : ∀ {ρ Q env A c}, Fr n sc env A → RelF W env xs ρ c → x ρ c.σ Q → Wp W A (eval e env) (Post [] W c (Val Q)) c.s
structure SemT (W : Wd) (sc : Scope) (xs : List Str) (n : Nat) (e : Expr) (x : TX) : Prop where
  run : ∀ {ρ Q env A c}, Fr n sc env A → RelF W env xs ρ c → x ρ c.σ Q → Wp W A (isTrue e env (eval e env)) (Post [] W c fun b c' => Q b c'.σ) c.s
inductive Fl where
  | next | brk | cont | ret (v : D)
noncomputable abbrev FX := Fl → List V → List MO → Prop
noncomputable abbrev SX := List V → List MO → FX → Prop
inductive FlRep (G : Fz) : Fl → Flow → Prop
  | next : FlRep G .next .next
  | brk : FlRep G .brk .brk
  | cont : FlRep G .cont .cont
  | ret {x v} (r : Rep G x v) : FlRep G (.ret x) (.ret v)
inductive FlPost (W : Wd) (env : Env) (xs : List Str) (Q : FX) (f : Flow) (c : Cf) : Prop
  | mk {fl ρ} (r : FlRep c.G fl f) (R : RelF W env xs ρ c) (q : Q fl ρ c.σ)
structure SemS (W : Wd) (sc : Scope) (xs : List Str) (n : Nat) (t : Env → Sem Flow) (x : SX) : Prop where
  run : ∀ {ρ Q env A c}, Fr n sc env A → RelF W env xs ρ c → x ρ c.σ Q → Wp W A (t env) (Post (fa env) W c (FlPost W env xs Q)) c.s
theorem SemX.use {W : Wd} {sc : Scope} {xs : List Str} {n : Nat} {e : Expr} {x : EX} {ρ : List V} {Q : VQ} {env : Env} {A : Around} {c : Cf} {Q' : Value → Shared → Prop} (h : SemX W sc xs n e x) (F : Fr n sc env A) (R : RelF W env xs ρ c) (hx : x ρ c.σ Q)
    (k : ∀ v c' y, Go [] W c c' → RelF W env xs ρ c' → RepV c'.G c'.φ y v → Q y c'.σ → Q' v c'.s) : wpAny W.M A (eval e env) Q' eS c.s :=
  (h.run F R hx).post fun v c' g p => by induction p using Val.casesOn with | mk r q => exact k v c' _ g (R.go g) r q
theorem SemT.use {W : Wd} {sc : Scope} {xs : List Str} {n : Nat} {e : Expr} {x : TX} {ρ : List V} {Q : BQ} {env : Env} {A : Around} {c : Cf} {Q' : Bool → Shared → Prop} (h : SemT W sc xs n e x) (F : Fr n sc env A) (R : RelF W env xs ρ c) (hx : x ρ c.σ Q)
    (k : ∀ v c', Go [] W c c' → RelF W env xs ρ c' → Q v c'.σ → Q' v c'.s) : wpAny W.M A (isTrue e env (eval e env)) Q' eS c.s :=
  (h.run F R hx).post fun v c' g q => k v c' g (R.go g) q
noncomputable abbrev fB {α : Type} (o : Option α) (F : α → Prop) : Prop := match o with | some v => F v | none => False
theorem vh {α : Type} {o : Option α} {v : α} {F : α → Prop} (h : o = some v) (q : F v) : fB o F := h ▸ q
noncomputable def ldK {α : Type} (σ : List α) (k : Nat) (F : α → Prop) : Prop := fB σ[k]? F
theorem iz {α : Type} {σ : List α} {k : Nat} {v : α} {F : α → Prop} (h : σ[k]? = some v) (q : F v) : ldK σ k F := vh h q
theorem bI {α : Type} {o : Option α} {F : α → Prop} (q : fB o F) : ∃ v, o = some v ∧ F v := match o, q with | some v, q => ⟨v, rfl, q⟩
noncomputable abbrev alt {α : Type} (o : Option α) (F : α → Prop) (E : Prop) : Prop := match o with | some v => F v | none => E
theorem alt_of {α : Type} {o : Option α} {v : α} {F : α → Prop} {E : Prop} (h : o = some v) (q : F v) : alt o F E := h ▸ q
theorem alt_no {α : Type} {o : Option α} {F : α → Prop} {E : Prop} (h : o = none) (q : E) : alt o F E := h ▸ q
theorem l5 {α : Type} {o : Option α} {F : α → Prop} {E C : Prop} (q : alt o F E) (h1 : ∀ v, o = some v → F v → C) (h2 : E → C) : C := match o, q with | some v, q => h1 v rfl q | none, q => h2 q
noncomputable abbrev chk (b : Bool) (P : Prop) : Prop := match b with | true => P | false => False
theorem kA {b : Bool} {P : Prop} (h : chk b P) : b = true ∧ P := match b, h with | true, h => ⟨rfl, h⟩
theorem oj {b : Bool} {P : Prop} (h : b = true) (q : P) : chk b P := h ▸ q
@[irreducible] noncomputable def tT (c : Bool) (A B : Prop) : Prop := match c with | true => A | false => B
theorem a6 {c : Bool} {A B : Prop} (h : c = true) (q : A) : tT c A B := by subst h; unfold tT; exact q
theorem aN {c : Bool} {A B : Prop} (h : c = false) (q : B) : tT c A B := by subst h; unfold tT; exact q
theorem zX {A B : Prop} (q : tT true A B) : A := by unfold tT at q; exact q
theorem zY {A B : Prop} (q : tT false A B) : B := by unfold tT at q; exact q
theorem cnd_y {p : Prop} [Decidable p] {A B : Prop} (h : p) (q : A) : tT (decide p) A B := a6 (decide_eq_true h) q
theorem cnd_n {p : Prop} [Decidable p] {A B : Prop} (h : ¬p) (q : B) : tT (decide p) A B := aN (decide_eq_false h) q
theorem cnd_iff {p : Prop} [Decidable p] {A B : Prop} (h : p → A) (h' : ¬p → B) : tT (decide p) A B := if k : p then cnd_y k (h k) else cnd_n k (h' k)
theorem cnd_ite {c : Bool} {A B : Prop} (q : tT c A B) : if c = true then A else B := by unfold tT at q; induction c using Bool.casesOn <;> exact q
noncomputable abbrev em : V → Option Int | .d (.int i) => some i | _ => none
noncomputable abbrev pO : V → Option (List UInt8) | .d (.bytes b) => some b | _ => none
noncomputable abbrev BN : V → Option String | .d (.str s) => some s | _ => none
noncomputable abbrev asTup : V → Option (List D) | .d (.tup l) => some l | _ => none
noncomputable abbrev asD : V → Option D | .d x => some x | _ => none
noncomputable abbrev asHd : V → Option Nat | .hd k => some k | _ => none
noncomputable def xV : MO → Option (List D) | .list l => some l | .frz (.lst l) => some l | _ => none
noncomputable def cu (σ : List MO) : V → Option (List D)
  | .d (.lst l) => some l
  | .hd k => σ[k]?.bind xV
  | _ => none
theorem bm {α : Type} {a : α} {C : Prop} (h : none = some a) : C := nomatch h
theorem pN {v : V} {i : Int} (h : em v = some i) : v = .d (.int i) := by
  induction v using V.casesOn <;> first | exact bm h | skip
  rename_i x; induction x using D.casesOn <;> first | exact bm h | (cases h; rfl)
theorem yn {v : V} {i : List UInt8} (h : pO v = some i) : v = .d (.bytes i) := by
  induction v using V.casesOn <;> first | exact bm h | skip
  rename_i x; induction x using D.casesOn <;> first | exact bm h | (cases h; rfl)
theorem w8 {v : V} {i : String} (h : BN v = some i) : v = .d (.str i) := by
  induction v using V.casesOn <;> first | exact bm h | skip
  rename_i x; induction x using D.casesOn <;> first | exact bm h | (cases h; rfl)
theorem BL {v : V} {i : List D} (h : asTup v = some i) : v = .d (.tup i) := by
  induction v using V.casesOn <;> first | exact bm h | skip
  rename_i x; induction x using D.casesOn <;> first | exact bm h | (cases h; rfl)
theorem asD_of {v : V} {i : D} (h : asD v = some i) : v = .d i := by
  induction v using V.casesOn <;> first | exact bm h | (cases h; rfl)
theorem asHd_of {v : V} {i : Nat} (h : asHd v = some i) : v = .hd i := by
  induction v using V.casesOn <;> first | exact bm h | (cases h; rfl)
section
variable {W : Wd} {c : Cf} {v : Value} {x : V} {P : Value → Prop}
@[elab_as_elim] theorem RepV.int {i : Int} (r : RepV c.G c.φ (.d (.int i)) v) (k : ∀ t, P (.int i t)) : P v := r.data.int_ k
@[elab_as_elim] theorem RepV.str {i : String} (r : RepV c.G c.φ (.d (.str i)) v) (k : ∀ t, P (.str (aa i) t)) : P v := r.data.str_ k
@[elab_as_elim] theorem RepV.bytes {i : List UInt8} (r : RepV c.G c.φ (.d (.bytes i)) v) (k : i.length ≤ 16777216 → ∀ t, P (.bytes i.toArray t)) : P v := r.data.bytes_ k
@[elab_as_elim] theorem jH {i : Int} (h : em x = some i) (r : RepV c.G c.φ x v) (k : ∀ t, P (.int i t)) : P v := (pN h ▸ r : RepV c.G c.φ (.d (.int i)) v).int k
@[elab_as_elim] theorem RelH.lst (R : RelH W c) {l : List D} (r : Rep c.G (.lst l) v) (k : ∀ a vs n, c.s.heap.get? a = some (listOf vs.toArray n) → l.length ≤ 16777216 → All2 (Rep c.G) l vs → P (.ref a)) : P v := r.lst_ fun a vs n g z r => k a vs n (R.fz _ _ g) z r
@[elab_as_elim] theorem RelH.list (R : RelH W c) {l : List D} (h : cu c.σ x = some l) (r : RepV c.G c.φ x v) (k : ∀ a vs n, c.s.heap.get? a = some (listOf vs.toArray n) → l.length ≤ 16777216 → All2 (Rep c.G) l vs → P (.ref a)) : P v := by
  induction x using V.casesOn with
  | un => exact bm h
  | d x => induction x using D.casesOn <;> first | exact bm h | (cases h; exact R.lst r.data k)
  | hd j =>
    refine r.hd_ fun p e => ?_
    obtain ⟨mo, hm, h⟩ := b7.mp h
    have o := R.objs e hm
    induction mo using MO.casesOn <;> first | exact bm h | (cases h; exact o.list_ fun vs n => k _ vs n) | skip
    rename_i x; induction x using D.casesOn <;> first | exact bm h | (cases h; exact R.lst o.frz_ k)
@[elab_as_elim] theorem RelH.tup (R : RelH W c) {l : List D} (r : RepV c.G c.φ (.d (.tup l)) v) (k : ∀ a vs n, c.s.heap.get? a = some (iv vs n) → l.length ≤ 16777216 → All2 (Rep c.G) l vs → P (.ref a)) : P v := r.data.tup_ fun a vs n g z r => k a vs n (R.fz _ _ g) z r
end
theorem sv : sizeLine = 16777216 := rfl
inductive Atom : D → D → Bool → Prop
  | none : Atom .none .none true
  | noneI (i) : Atom .none (.int i) false
  | noneS (s) : Atom .none (.str s) false
  | bool (a b) : Atom (.bool a) (.bool b) (a == b)
  | int (a b) : Atom (.int a) (.int b) (decide (a = b))
  | str (a b) : Atom (.str a) (.str b) (a == b)
  | bytes (a b) : Atom (.bytes a) (.bytes b) (a == b)
inductive DeqL : Nat → List D → List D → Bool → Prop
  | nil {n} : DeqL n [] [] true
  | atom {n x y l m a b} : Atom x y a → DeqL n l m b → DeqL n (x :: l) (y :: m) (a && b)
  | tup {n x y l m a b} : DeqL n x y a → DeqL (n + 1) l m b → DeqL (n + 1) (.tup x :: l) (.tup y :: m) (a && b)
  | lst {n x y l m a b} : DeqL n x y a → DeqL (n + 1) l m b → DeqL (n + 1) (.lst x :: l) (.lst y :: m) (a && b)
  | lens {n x y l m b} : x.length ≠ y.length → DeqL (n + 1) l m b → DeqL (n + 1) (.lst x :: l) (.lst y :: m) false
section
variable {G : Fz} {A : Around} {s : Shared}
theorem RcAt.bytes (a b : List UInt8) (t u : Tok) : RcAt A s (.bytes a.toArray t) (.bytes b.toArray u) (a == b) := fun prog w E Q h => eq_bytes (s := s) (b := a.toArray) (c := b.toArray) h
theorem RcNeAt.bytes (a b : List UInt8) (t u : Tok) : RcNeAt A s (.bytes a.toArray t) (.bytes b.toArray u) (!(a == b)) := fun prog w E Q h => ne_bytes (s := s) (b := a.toArray) (c := b.toArray) h
theorem EqAt.of_vals {x y : Value} {k : Bool} (hf : ∀ a t, x ≠ .float a t) (hs : x = y → k = true) (h : RcAt A s x y k) : EqAt A s x y k := fun prog w E Q hq => by
  unfold eqBool
  refine wpAny_holding ?_
  refine wpAny_ite_split (fun hab => ?_) (fun _ => ?_)
  · rw [hs (eq_of_beq hab)] at hq
    exact wpAny_bind (wpAny_rule (wpAny_pure hq))
  · induction x using PySem.Value.casesOn <;> first | exact (hf _ _ rfl).elim | exact wpAny_bind (h prog w E _ (wpAny_truthy_bool hq))
theorem sm (a b : String) : (aa a == aa b) = (a == b) := by
  rw [Bool.eq_iff_iff, beq_iff_eq, beq_iff_eq]
  exact ⟨ko, congrArg _⟩
theorem uz {h : Heap} {a : Addr} {vs : List Value} {n : Nat} (g : h.get? a = some (listOf vs.toArray n)) : h.IsList a vs.toArray := ⟨_, g, rfl, n, rfl⟩
theorem isT {h : Heap} {a : Addr} {vs : List Value} {n : Nat} (g : h.get? a = some (iv vs n)) : h.IsTuple a vs.toArray := ⟨_, g, rfl, _, rfl⟩
theorem isT' {h : Heap} {a : Addr} {vs : List Value} {n : Nat} (g : h.get? a = some (iv vs n)) : IsTup h a vs.toArray := ⟨_, g, rfl, _, rfl⟩
structure ItemOk (A : Around) (s : Shared) (v u : Value) (b : Bool) : Prop where
  nf : ∀ a t, v ≠ .float a t
  same : v = u → b = true
  eq : RcAt A s v u b
  ne : RcNeAt A s v u (!b)
theorem ItemOk.at_ {v u : Value} {b : Bool} (h : ItemOk A s v u b) : EqAt A s v u b := EqAt.of_vals h.nf h.same h.eq
theorem Atom.ok {x y : D} {b : Bool} (h : Atom x y b) : ∀ {v u : Value}, Rep G x v → Rep G y u → ItemOk A s v u b := by
  induction h using Atom.casesOn with
  | none => intro v u p q; exact p.none_ (q.none_ ⟨fun _ _ => Value.noConfusion, fun _ => rfl, RcAt.none_none, RcNeAt.none_none⟩)
  | noneI => intro v u p q; exact p.none_ (q.int_ fun _ => ⟨fun _ _ => Value.noConfusion, fun e => Value.noConfusion e, fun _ _ _ _ h => EqNone.eq_none_int h, fun _ _ _ _ h => EqNone.ne_none_int h⟩)
  | noneS => intro v u p q; exact p.none_ (q.str_ fun _ => ⟨fun _ _ => Value.noConfusion, fun e => Value.noConfusion e, fun _ _ _ _ h => EqNone.eq_none_str h, fun _ _ _ _ h => EqNone.ne_none_str h⟩)
  | bool a b => intro v u p q; exact p.bool_ (q.bool_ ⟨fun _ _ => Value.noConfusion, fun e => beq_iff_eq.mpr (Value.bool.inj e), RcAt.bool_bool _ _, RcNeAt.bool_bool _ _⟩)
  | int a b => intro v u p q; exact p.int_ fun _ => q.int_ fun _ => ⟨fun _ _ => Value.noConfusion, fun e => decide_eq_true (Value.int.inj e).1, RcAt.int_int _ _ _ _, RcNeAt.int_int _ _ _ _⟩
  | str a b => intro v u p q; rw [← sm]; exact p.str_ fun _ => q.str_ fun _ => ⟨fun _ _ => Value.noConfusion, fun e => beq_iff_eq.mpr (Value.str.inj e).1, RcAt.str_str _ _ _ _, RcNeAt.str_str _ _ _ _⟩
  | bytes a b => intro v u p q; exact p.bytes_ fun _ _ => q.bytes_ fun _ _ => ⟨fun _ _ => Value.noConfusion, fun e => beq_iff_eq.mpr (Array.mk.inj (Value.bytes.inj e).1), RcAt.bytes _ _ _ _, RcNeAt.bytes _ _ _ _⟩
structure ItemsOk (A : Around) (s : Shared) (vs us : List Value) (b : Bool) : Prop where
  len : vs.length = us.length
  same : vs = us → b = true
  each : ∃ e : Nat → Bool, (∀ j v u, vs[j]? = some v → us[j]? = some u → EqAt A s v u (e j)) ∧ (ij vs.length).all e = b
theorem ItemOk.cons {v u : Value} {vs us : List Value} {a b : Bool} (h : ItemOk A s v u a) (t : ItemsOk A s vs us b) : ItemsOk A s (v :: vs) (u :: us) (a && b) := by
  obtain ⟨l, w, e, he, ha⟩ := t
  refine ⟨congrArg (· + 1) l, fun q => ?_, fun j => Nat.casesOn j a e, fun j x y hx hy => ?_, ?_⟩
  · injection q with q1 q2; rw [h.same q1, w q2]; rfl
  · induction j using Nat.casesOn with
    | zero => cases hx; cases hy; exact h.at_
    | succ j => exact he j x y hx hy
  · rw [ao, xo, ki, List.all_map]; exact congrArg (a && ·) ha
theorem ItemsOk.tup {i j : Addr} {c d : Nat} {vs us : List Value} {b : Bool} (k : ∀ a o, G a = some o → s.heap.get? a = some o) (t : ItemsOk A.in1 s vs us b) (g : G i = some (iv vs c)) (g' : G j = some (iv us d)) (hu : A.units < cLine) : ItemOk A s (.ref i) (.ref j) b := by
  obtain ⟨l, w, e, he, ha⟩ := t
  have z : ((ij (min vs.toArray.size us.toArray.size)).all e && vs.toArray.size == us.toArray.size) = b := by
    rw [aX, aX, ← l, Nat.min_self, beq_self_eq_true, Bool.and_true]; exact ha
  have he' := fun j (h1 : j < vs.toArray.size) (h2 : j < us.toArray.size) => he j _ _ (aO h1) (aO h2)
  have g1 := isT (k _ _ g)
  have g2 := isT (k _ _ g')
  exact ⟨fun _ _ => Value.noConfusion, fun e => by cases e; cases cm.inj (g.symm.trans g'); exact w rfl, z ▸ RcAt.tuples g1 g2 hu he', z ▸ RcNeAt.tuples g1 g2 hu he'⟩
theorem ItemsOk.lst {i j : Addr} {c d : Nat} {vs us : List Value} {b : Bool} (t : ItemsOk A.in1 s vs us b) (g : s.heap.get? i = some (listOf vs.toArray c)) (g' : s.heap.get? j = some (listOf us.toArray d)) (hu : A.units < cLine) : ItemOk A s (.ref i) (.ref j) b := by
  obtain ⟨l, w, e, he, ha⟩ := t
  have z : (ij vs.toArray.size).all e = b := ha
  have he' := fun j (h1 : j < vs.toArray.size) (h2 : j < us.toArray.size) => he j _ _ (aO h1) (aO h2)
  exact ⟨fun _ _ => Value.noConfusion, fun e => by cases e; cases cm.inj (g.symm.trans g'); exact w rfl, z ▸ RcAt.lists (uz g) (uz g') l hu he', z ▸ RcNeAt.lists (uz g) (uz g') l hu he'⟩
theorem ItemOk.lens {i j : Addr} {c d : Nat} {vs us : List Value} (l : vs.length ≠ us.length) (g : s.heap.get? i = some (listOf vs.toArray c)) (g' : s.heap.get? j = some (listOf us.toArray d)) (hu : A.units < cLine) : ItemOk A s (.ref i) (.ref j) false :=
  ⟨fun _ _ => Value.noConfusion, fun e => by cases e; cases cm.inj (g.symm.trans g'); exact (l rfl).elim, RcAt.lists_lengths (uz g) (uz g') (bne_iff_ne.mpr l) hu, RcNeAt.lists_lengths (uz g) (uz g') (bne_iff_ne.mpr l) hu⟩
theorem qk {A : Around} {n : Nat} (h : A.units + (n + 1) < cLine) : A.in1.units + n < cLine ∧ A.units < cLine := ⟨by rw [show A.in1.units = A.units + 1 from rfl, aZ, bq 1]; exact h, aL (ai _ _) h⟩
theorem All2.lens {α β γ : Type} {P : α → γ → Prop} {Q : β → γ → Prop} {l : List α} {m : List β} {vs us : List γ} (r : All2 P l vs) (r' : All2 Q m us) (h : l.length ≠ m.length) : vs.length ≠ us.length := fun e => h (r.length.symm.trans (e.trans r'.length))
theorem DeqL.ok (k : ∀ a o, G a = some o → s.heap.get? a = some o) {n : Nat} {l m : List D} {b : Bool} (h : DeqL n l m b) : ∀ {A : Around} {vs us : List Value}, All2 (Rep G) l vs → All2 (Rep G) m us → A.units + n < cLine → ItemsOk A s vs us b := by
  induction h with
  | nil => intro A vs us p q _; exact p.un0 (q.un0 ⟨rfl, fun _ => rfl, fun _ => true, fun _ _ _ e => (nomatch e), rfl⟩)
  | atom h _ ih => intro A vs us p q hu; exact p.un fun _ _ p p' => q.un fun _ _ q q' => (h.ok p q).cons (ih p' q' hu)
  | tup _ _ ih ih' => intro A vs us p q hu; exact p.un fun _ _ p p' => q.un fun _ _ q q' => p.tup_ fun _ _ _ g _ p => q.tup_ fun _ _ _ g' _ q => ((ih p q (qk hu).1).tup k g g' (qk hu).2).cons (ih' p' q' hu)
  | lst _ _ ih ih' => intro A vs us p q hu; exact p.un fun _ _ p p' => q.un fun _ _ q q' => p.lst_ fun _ _ _ g _ p => q.lst_ fun _ _ _ g' _ q => ((ih p q (qk hu).1).lst (k _ _ g) (k _ _ g') (qk hu).2).cons (ih' p' q' hu)
  | lens h _ ih' => intro A vs us p q hu; exact p.un fun _ _ p p' => q.un fun _ _ q q' => p.lst_ fun _ _ _ g _ p => q.lst_ fun _ _ _ g' _ q => (ItemOk.lens (p.lens q h) (k _ _ g) (k _ _ g') (qk hu).2).cons (ih' p' q' hu)
end
section
variable {W : Wd} {A : Around} {n : Nat} {c : Cf}
inductive EqR (σ : List MO) : V → V → Bool → Prop
  | atom {x y r} (h : Atom x y r) : EqR σ (.d x) (.d y) r
  | tup {l m r} (h : DeqL 8 l m r) : EqR σ (.d (.tup l)) (.d (.tup m)) r
  | lst {a b l m r} (h : cu σ a = some l) (h' : cu σ b = some m) (e : DeqL 8 l m r) : EqR σ a b r
  | lens {a b l m} (h : cu σ a = some l) (h' : cu σ b = some m) (z : l.length ≠ m.length) : EqR σ a b false
theorem EqR.ok (hA : Ok n A) (R : RelH W c) {a b : V} {r : Bool} (h : EqR c.σ a b r) : ∀ va vb : Value, RepV c.G c.φ a va → RepV c.G c.φ b vb → ItemOk A c.s va vb r := by
  have hu := qk (hA.units1 9)
  induction h using EqR.casesOn with
  | atom h => exact fun _ _ ra rb => h.ok ra.data rb.data
  | tup h => exact fun _ _ ra rb => ra.data.tup_ fun _ _ _ g _ p => rb.data.tup_ fun _ _ _ g' _ q => (h.ok R.fz p q hu.1).tup R.fz g g' hu.2
  | lst h h' e => exact fun _ _ ra rb => R.list h ra fun _ _ _ g _ p => R.list h' rb fun _ _ _ g' _ q => (e.ok R.fz p q hu.1).lst g g' hu.2
  | lens h h' z => exact fun _ _ ra rb => R.list h ra fun _ _ _ g _ p => R.list h' rb fun _ _ _ g' _ q => ItemOk.lens (p.lens q z) g g' hu.2
end
theorem at_app {α : Type} {l m : List α} {i : Nat} : (l ++ m)[l.length + i]? = m[i]? := by rw [bp (ai _ _), cQ]
noncomputable def dm (a b : List UInt8) : Bool := Builtin.Bytes.order a b != .gt
theorem tO : Slot "bytes" (cmpInfo .LtE).2.1 "bytes.__le__" :=
  .of (owner := "bytes") (n := "__le__") (by rw [typeLookup_type, builtinLookup_eq_fast]; kernel_rfl) (by decide +kernel) (by decide +kernel) (by decide +kernel)
    (by first | exact .inl (by decide +kernel) | exact .inr (by decide +kernel)) (by rw [isSubtype_type]; kernel_rfl)
theorem tf : entryFor table "bytes.__le__" = some Builtin.«bytes.__le__» := entryFor_of_tree (by kernel_rfl)
theorem ue (a b : Value) : argsOk "bytes.__le__" ⟨[a, b], []⟩ := by
  unfold argsOk; rw [signature?_of (id := "bytes.__le__") (n := ['_', '_', 'e', 'l', '_', '_']) (o := ['s', 'e', 't', 'y', 'b']) (by kernel_rfl) FB.owner_bytes]; kernel_rfl
theorem s4 (b c : Array UInt8) (t u : Tok) : Gives (Builtin.«bytes.__le__» ⟨[.bytes b t, .bytes c u], []⟩) (.val (.bool (dm b.toList c.toList))) := by
  refine .of_wp fun M A E s Q hq => ?_
  show wpAny M A (isInstance (.bytes c u) (.type "bytes") >>= fun r => _) _ E s
  refine wpAny_bind (wpAny_isInstance (typeIs_bytes s c u) F.sub_bytes_bytes ?_)
  exact wpAny_pure ⟨_, rfl, hq⟩
theorem pU {K : Type} [DecidableEq K] {prog : Program} {w : World} {A : Around} {s : Shared} {E : Value → Shared → Prop} {d a : Addr} {k : K} {xs : List (K × Addr × Value)} {knd : HeapKind prog w K} {Q : Value → Shared → Prop} (hu : knd.room A.in1) (hkey : knd.is s.heap k a) (hd : (d == sysModules) = false) (hm : s.heap.DictOfH knd d xs)
    (h : Q (.bool (!(atKey xs k).isSome)) { s with toks := s.toks + knd.draws k }) : wpAny (model prog w) A (compareOp .NotIn (.ref a) (.ref d)) Q E s := by
  show wpAny _ _ (do return .bool (!(← contains (.ref d) (.ref a)))) Q E s
  refine wpAny_bind ?_
  unfold contains
  try with_reducible refine wpAny_holding ?_
  refine wpAny_bind (wpAny_specialOf hm.typeIs slot_dict_contains.lookup ?_)
  show wpAny _ _ (if (some (Value.builtin "dict.__contains__") == some Value.none) = true then _ else _) _ E s
  rw [if_neg (by rw [beq_builtin_none]; exact pT)]
  refine wpAny_bind (wpAny_callSpecialUnlessNone?_slot (name := aa "__contains__") hm.typeIs slot_dict_contains
    (wpAny_call_entry slot_dict_contains hm.typeIs entry_dict_contains ?_ (args_dict_contains _ _)))
  show wpAny _ _ (dictGet d (.ref a) >>= _) _ _ s
  refine wpAny_bind (wpAny_dictGet_heap hu hkey hm ?_)
  cases hf : atKey xs k with
  | some p =>
    rw [hf] at h
    show wpAny _ _ (ret (.bool true)) _ _ _
    exact wpAny_pure ⟨_, rfl, wpAny_truthy_bool (wpAny_pure h)⟩
  | none =>
    rw [hf] at h
    show wpAny _ _ (Builtin.Dict.pendingKey? d (.ref a) >>= _) _ _ _
    exact wpAny_bind (wpAny_pendingKey_other hd (wpAny_pure ⟨_, rfl, wpAny_truthy_bool (wpAny_pure h)⟩))
section
variable {W : Wd} {A : Around} {n : Nat} {c : Cf}
theorem RelH.ne_sys (R : RelH W c) {k : Nat} {p : Addr × Addr} {mo : MO} {a : Addr} (h1 : c.φ[k]? = some p) (h2 : c.σ[k]? = some mo) (o : tN p mo a) : (a == sysModules) = false := by
  have e := (R.off ⟨h1, h2, o⟩).1
  obtain ⟨hb, T, kk⟩ := R.base
  obtain ⟨mm, o, es, ep, ho, _⟩ := T.sys
  rw [beq_eq_false_iff_ne]
  rintro rfl
  cases e.symm.trans (kk _ _ ho)
theorem Ok.room (h : Ok n A) : (oU W.prog W.w).room A.in1 := tupleKind_room_in1 (h.units1 1)
theorem fb_is (x : List UInt8) (t : Tok) : isFb (some x) (.bytes x.toArray t) = true := beq_self_eq_true x
inductive KeyAt (W : Wd) (c : Cf) (i : List UInt8) : Value → Prop
  | mk {a t n} (g : c.G a = some (iv [.bool false, .bytes i.toArray t] n)) (k : (oU W.prog W.w).is c.s.heap [none, some i] a) : KeyAt W c i (.ref a)
theorem RelH.key (R : RelH W c) {i : List UInt8} {v : Value} (r : RepV c.G c.φ (.d (.tup [.bool false, .bytes i])) v) : KeyAt W c i v := by
  refine r.data.tup_ fun a vs n g _ q => ?_
  obtain ⟨t, rfl⟩ : ∃ t, vs = [.bool false, .bytes i.toArray t] := q.un fun _ _ r1 q => q.un fun _ _ r2 q => q.un0 (r1.bool_ (r2.bytes_ fun _ t => ⟨t, rfl⟩))
  exact ⟨g, ⟨_, _, _, R.fz _ _ g, rfl, rfl, .cons rfl (.cons (fb_is _ t) .nil)⟩⟩
inductive BV (W : Wd) (c : Cf) (p : Addr × Addr) (m : List UInt8 → Option Int) (z : Nat) : Prop
  | mk {xs} (d : c.s.heap.DictOfH (oU W.prog W.w) p.1 xs) (v : ∀ k, OptAt (m k) ((atKey xs [none, some k]).map (·.2))) (le : xs.length ≤ z) (ks : ∀ x ∈ xs, ∃ b t z, x.1 = [none, some b] ∧ c.G x.2.1 = some (iv [.bool false, .bytes b.toArray t] z)) : BV W c p m z
theorem RelH.tmap (R : RelH W c) {p : Addr × Addr} {m : List UInt8 → Option Int} {z : Nat} (o : MOk W c.G c.φ c.s.heap p (.tmap m z)) : BV W c p m z := by
  cases o with | tmap g ex d e ks nd z v =>
  refine ⟨⟨_, _, _, g, ex, d, e, fun x mx => ?_, nd⟩, v, z, ks⟩
  obtain ⟨b, t, z, e, g⟩ := ks x mx
  rw [e]
  exact ⟨_, _, _, R.fz _ _ g, rfl, rfl, .cons rfl (.cons (fb_is _ t) .nil)⟩
noncomputable def InOk (W : Wd) (A : Around) (s : Shared) (va vb : Value) (r : Bool) : Prop := ∀ Q : Value → Shared → Prop,
  ((∀ k, Q (.bool r) { s with toks := k }) → wpAny W.M A (compareOp .In va vb) Q eS s) ∧ ((∀ k, Q (.bool (!r)) { s with toks := k }) → wpAny W.M A (compareOp .NotIn va vb) Q eS s)
inductive InR (σ : List MO) : V → V → Bool → Prop
  | imap {k m z} {i : Int} (h : σ[k]? = some (.imap m z)) : InR σ (.d (.int i)) (.hd k) (m i).isSome
  | bmap {k m z} {i : List UInt8} (h : σ[k]? = some (.bmap m z)) : InR σ (.d (.bytes i)) (.hd k) (m i).isSome
  | tmap {k m z} {i : List UInt8} (h : σ[k]? = some (.tmap m z)) : InR σ (.d (.tup [.bool false, .bytes i])) (.hd k) (m i).isSome
  | ss (x : String) (l : List String) : InR σ (.d (.str x)) (.d (.tup (l.map .str))) (l.any (· == x))
  | bs (x : List UInt8) (l : List (List UInt8)) : InR σ (.d (.bytes x)) (.d (.tup (l.map .bytes))) (l.any (· == x))
theorem zj {α : Type} {G : Fz} {f : α → D} {t : Value → Bool} {p : α → Bool} {P : Value → Prop} (hf : ∀ a v, Rep G (f a) v → t v = p a ∧ P v) {l : List α} : ∀ {vs : List Value}, All2 (Rep G) (l.map f) vs → vs.any t = l.any p ∧ ∀ v ∈ vs, P v := by
  induction l with
  | nil => intro vs r; exact r.un0 ⟨rfl, fun _ m => (bJ m).elim⟩
  | cons a l ih =>
    intro vs r
    refine r.un fun v vs q r => ?_
    obtain ⟨h1, h2⟩ := ih r
    exact ⟨by rw [eZ, eZ, h1, (hf a _ q).1], fun v m => (bc.mp m).elim (fun e => e ▸ (hf a _ q).2) (h2 v)⟩
theorem Bf {k : Nat} {i : Addr} {vs : List Value} {x : Value} {f : Value → Bool} (g : c.s.heap.get? i = some (iv vs k)) (he : ∀ y ∈ vs, EqAt A.in1 c.s y x (f y)) : InOk W A c.s x (.ref i) (vs.any f) := fun Q => by
  have he : ∀ y, y ∈ vs.toArray → EqAt A.in1 c.s y x (f y) := fun y hy => he y (List.mem_toArray.mp hy)
  have hz : vs.toArray.any f = vs.any f := List.any_toArray ..
  exact ⟨fun q => in_tupleAt f (isT' g) he (hz ▸ q c.s.toks), fun q => notIn_tupleAt f (isT' g) he (hz ▸ q c.s.toks)⟩
theorem InR.ok (hA : Ok n A) (R : RelH W c) {a b : V} {r : Bool} (h : InR c.σ a b r) : ∀ va vb : Value, RepV c.G c.φ a va → RepV c.G c.φ b vb → InOk W A c.s va vb r := by
  induction h using InR.casesOn with
  | imap h =>
    intro va vb ra rb
    refine ra.int fun t => rb.hd_ fun p hp => (R.objs hp h).imap_ fun f hf hv _ => ?_
    have hs := R.ne_sys hp h .imap
    rw [← (hv _).isSome]
    exact fun Q => ⟨fun q => wpAny_in_of (intKind_is _ _ _ _) hs hf (q _), fun q => wpAny_notIn_of (intKind_is _ _ _ _) hs hf (q _)⟩
  | bmap h =>
    intro va vb ra rb
    refine ra.bytes fun _ t => rb.hd_ fun p hp => (R.objs hp h).bmap_ fun f hf _ hv => ?_
    have hs := R.ne_sys hp h .bmap
    rw [← (hv _).isSome]
    exact fun Q => ⟨fun q => wpAny_in_of (i9 _ _ _ _) hs hf.mapOf (q _), fun q => wpAny_notIn_of (i9 _ _ _ _) hs hf.mapOf (q _)⟩
  | tmap h =>
    intro va vb ra rb
    cases R.key ra with | mk _ hk =>
    refine rb.hd_ fun p hp => ?_
    cases R.tmap (R.objs hp h) with | mk hd hv _ _ =>
    have hs := R.ne_sys hp h .tmap
    rw [← (hv _).isSome, Option.isSome_map]
    exact fun Q => ⟨fun q => wpAny_in_heap (hA.room (W := W)) hk hs hd (q _), fun q => pU (hA.room (W := W)) hk hs hd (q _)⟩
  | ss x l =>
    intro va vb ra rb
    refine ra.str fun t => R.tup rb fun _ _ _ g _ rs => ?_
    obtain ⟨e, he⟩ := zj (t := fun v => match v with | .str b _ => b == aa x | _ => false) (p := (· == x)) (P := fun v => ∃ b k, v = .str b k) (fun a v h => h.str_ fun _ => ⟨sm a x, _, _, rfl⟩) rs
    exact e ▸ Bf g fun y hy => by obtain ⟨b, k, rfl⟩ := he y hy; exact EqAt.str_str _ _ _ _
  | bs x l =>
    intro va vb ra rb
    refine ra.bytes fun _ t => R.tup rb fun _ _ _ g _ rs => ?_
    obtain ⟨e, he⟩ := zj (t := fun v => match v with | .bytes b _ => b.toList == x | _ => false) (p := (· == x)) (P := fun v => ∃ b k, v = .bytes (cH b) k) (fun a v h => h.bytes_ fun _ _ => ⟨rfl, _, _, rfl⟩) rs
    exact e ▸ Bf g fun y hy => by
      obtain ⟨b, k, rfl⟩ := he y hy
      exact EqAt.of_vals (fun _ _ => Value.noConfusion) (fun e => beq_iff_eq.mpr (Array.mk.inj (Value.bytes.inj e).1)) (RcAt.bytes _ _ _ _)
inductive NonN : V → Prop
  | hd (k) : NonN (.hd k)
  | int (i) : NonN (.d (.int i))
  | bytes (i) : NonN (.d (.bytes i))
  | tup (l) : NonN (.d (.tup l))
  | lst (l) : NonN (.d (.lst l))
theorem NonN.ok {a : V} (h : NonN a) : ∀ v, RepV c.G c.φ a v → plainIs v .none = true ∧ v ≠ .none := by
  induction h using NonN.casesOn with
  | hd k => exact fun v r => r.hd_ fun p _ => ⟨rfl, Value.noConfusion⟩
  | int i => exact fun v r => r.int fun _ => ⟨rfl, Value.noConfusion⟩
  | bytes i => exact fun v r => r.bytes fun _ _ => ⟨rfl, Value.noConfusion⟩
  | tup i => exact fun v r => r.data.tup_ fun _ _ _ _ _ _ => ⟨rfl, Value.noConfusion⟩
  | lst i => exact fun v r => r.data.lst_ fun _ _ _ _ _ _ => ⟨rfl, Value.noConfusion⟩
inductive CmpR (σ : List MO) : CmpOp → V → V → Bool → Prop
  | eq {a b r} (h : EqR σ a b r) : CmpR σ .Eq a b r
  | ne {a b r} (h : EqR σ a b r) : CmpR σ .NotEq a b (!r)
  | mem {a b r} (h : InR σ a b r) : CmpR σ .In a b r
  | nmem {a b r} (h : InR σ a b r) : CmpR σ .NotIn a b (!r)
  | isN : CmpR σ .Is (.d .none) (.d .none) true
  | isO {a} (h : NonN a) : CmpR σ .Is a (.d .none) false
  | ntN : CmpR σ .IsNot (.d .none) (.d .none) false
  | ntO {a} (h : NonN a) : CmpR σ .IsNot a (.d .none) true
  | leB (x y : List UInt8) : CmpR σ .LtE (.d (.bytes x)) (.d (.bytes y)) (dm x y)
noncomputable def zD (R : Bool → Prop) (Q : BQ) (σ : List MO) : Prop := ∃ r, R r ∧ Q r σ
theorem aw {R : Bool → Prop} {Q : BQ} {σ : List MO} {r : Bool} (h : R r) (q : Q r σ) : zD R Q σ := ⟨r, h, q⟩
noncomputable abbrev cmpK (op : CmpOp) (Q : BQ) (a b : V) (σ : List MO) : Prop := match op with
  | .Lt => fB (em a) fun i => fB (em b) fun j => Q (decide (i < j)) σ
  | .Gt => fB (em a) fun i => fB (em b) fun j => Q (decide (j < i)) σ
  | .GtE => fB (em a) fun i => fB (em b) fun j => Q (decide (j ≤ i)) σ
  | .LtE => alt (em a) (fun i => fB (em b) fun j => Q (decide (i ≤ j)) σ) (zD (CmpR σ .LtE a b) Q σ)
  | .Eq => alt (em a) (fun i => alt (em b) (fun j => Q (decide (i = j)) σ) (zD (CmpR σ .Eq a b) Q σ)) (zD (CmpR σ .Eq a b) Q σ)
  | op => zD (CmpR σ op a b) Q σ
theorem CmpR.ok (hA : Ok n A) (R : RelH W c) {Q : Value → Shared → Prop} {op : CmpOp} {a b : V} {r : Bool} (h : CmpR c.σ op a b r) : ∀ va vb : Value, RepV c.G c.φ a va → RepV c.G c.φ b vb → (∀ k, Q (.bool r) { c.s with toks := k }) → wpAny W.M A (compareOp op va vb) Q eS c.s := by
  induction h using CmpR.casesOn with
  | eq h => exact fun _ _ ra rb q => (h.ok hA R _ _ ra rb).eq W.prog W.w eS Q (q c.s.toks)
  | ne h => exact fun _ _ ra rb q => (h.ok hA R _ _ ra rb).ne W.prog W.w eS Q (q c.s.toks)
  | mem h => exact fun _ _ ra rb q => ((h.ok hA R _ _ ra rb) _).1 q
  | nmem h => exact fun _ _ ra rb q => ((h.ok hA R _ _ ra rb) _).2 q
  | isN => exact fun _ _ ra rb q => ra.data.none_ (rb.data.none_ (wpAny_is_self rfl (q c.s.toks)))
  | isO h => exact fun _ _ ra rb q => rb.data.none_ (wpAny_is_other (h.ok _ ra).1 (h.ok _ ra).2 (q c.s.toks))
  | ntN => exact fun _ _ ra rb q => ra.data.none_ (rb.data.none_ (wpAny_isNot_self rfl (q c.s.toks)))
  | ntO h => exact fun _ _ ra rb q => rb.data.none_ (wpAny_isNot_other (h.ok _ ra).1 (h.ok _ ra).2 (q c.s.toks))
  | leB x y => exact fun _ _ ra rb q => ra.bytes fun _ _ => rb.bytes fun _ _ => compareOp_gives (op := .LtE) (typeIs_bytes _ _ _) (typeIs_bytes _ _ _) tO tf (ue _ _) (s4 _ _ _ _) (fun e => nomatch e) (q c.s.toks)
theorem y5 (hA : Ok n A) (R : RelH W c) {op : CmpOp} {a b : V} {va vb : Value} {Q : BQ} (H : cmpK op Q a b c.σ) (ra : RepV c.G c.φ a va) (rb : RepV c.G c.φ b vb) {Q' : Value → Shared → Prop} (q : ∀ r k, Q r c.σ → Q' (.bool r) { c.s with toks := k }) : wpAny W.M A (compareOp op va vb) Q' eS c.s := by
  have two : ∀ {F : Int → Int → Prop} {P : Value → Value → Prop} {i : Int}, em a = some i → fB (em b) (F i) → (∀ j t u, F i j → P (.int i t) (.int j u)) → P va vb := fun e h k => by
    obtain ⟨j, e', h⟩ := bI h
    exact jH e ra fun t => jH e' rb fun u => k j t u h
  have rel : ∀ {op}, zD (CmpR c.σ op a b) Q c.σ → wpAny W.M A (compareOp op va vb) Q' eS c.s := fun h => by
    obtain ⟨r, h, z⟩ := h
    exact h.ok hA R _ _ ra rb fun k => q r k z
  induction op using PySem.CmpOp.casesOn with
  | Lt => obtain ⟨i, e, h⟩ := bI H; exact two (F := fun i j => Q (decide (i < j)) c.σ) (P := fun va vb => wpAny W.M A (compareOp .Lt va vb) Q' eS c.s) e h fun j t u z => PyProof.Rows.lt_int (q _ c.s.toks z)
  | Gt => obtain ⟨i, e, h⟩ := bI H; exact two (F := fun i j => Q (decide (j < i)) c.σ) (P := fun va vb => wpAny W.M A (compareOp .Gt va vb) Q' eS c.s) e h fun j t u z => PyProof.Rows.gt_int (q _ c.s.toks z)
  | GtE => obtain ⟨i, e, h⟩ := bI H; exact two (F := fun i j => Q (decide (j ≤ i)) c.σ) (P := fun va vb => wpAny W.M A (compareOp .GtE va vb) Q' eS c.s) e h fun j t u z => PyProof.Rows.ge_int (q _ c.s.toks z)
  | LtE => exact l5 H (fun i e h => two (F := fun i j => Q (decide (i ≤ j)) c.σ) (P := fun va vb => wpAny W.M A (compareOp .LtE va vb) Q' eS c.s) e h fun j t u z => PyProof.Rows.le_int (q _ c.s.toks z)) rel
  | Eq =>
    refine l5 H (fun i e h => l5 h (fun j e' h => ?_) rel) rel
    cases pN e; cases pN e'
    exact (EqR.atom (.int i j)).ok hA R _ _ ra rb |>.eq W.prog W.w eS Q' (q _ c.s.toks h)
  | _ => exact rel H
end
noncomputable def u8 (R : V → List MO → Prop) (Q : VQ) : Prop := ∃ v σ, R v σ ∧ Q v σ
theorem af {R : V → List MO → Prop} {Q : VQ} {v : V} {σ : List MO} (h : R v σ) (q : Q v σ) : u8 R Q := ⟨v, σ, h, q⟩
inductive BinR (σ : List MO) : Operator → V → V → V → List MO → Prop
  | addB {x y} (z : x.length + y.length ≤ 16777216) : BinR σ .Add (.d (.bytes x)) (.d (.bytes y)) (.d (.bytes (x ++ y))) σ
  | addS {x y} (z : x.length + y.length ≤ 16777216) : BinR σ .Add (.d (.str x)) (.d (.str y)) (.d (.str (x ++ y))) σ
  | addL {a b l m} (h : cu σ a = some l) (h' : cu σ b = some m) (z : l.length + m.length ≤ 16777216) : BinR σ .Add a b (.d (.lst (l ++ m))) σ
  | addH {a b l m} (h : cu σ a = some l) (h' : cu σ b = some m) (z : l.length + m.length ≤ 16777216) : BinR σ .Add a b (.hd σ.length) (σ ++ [.list (l ++ m)])
  | mulI {i j} (h : i.natAbs < 2 ^ 60) : BinR σ .Mult (.d (.int i)) (.d (.int j)) (.d (.int (i * j))) σ
  | mulB {x k} (h1 : x ≠ []) (h2 : x.length ≤ 16) (h3 : -1048576 ≤ k) (h4 : k ≤ 1048576) : BinR σ .Mult (.d (.bytes x)) (.d (.int k)) (.d (.bytes (ay k.toNat x).flatten)) σ
  | mulH {a l k} (h : cu σ a = some l) (h1 : 0 ≤ k) (h2 : k ≤ 16777216) (z : l.length * k.toNat ≤ 16777216) : BinR σ .Mult a (.d (.int k)) (.hd σ.length) (σ ++ [.list (ay k.toNat l).flatten])
  | divI {i j} (h : j ≠ 0) (h' : j.natAbs < 1073741824) : BinR σ .FloorDiv (.d (.int i)) (.d (.int j)) (.d (.int (i.fdiv j))) σ
  | modI {i j} (h : j ≠ 0) : BinR σ .Mod (.d (.int i)) (.d (.int j)) (.d (.int (i.fmod j))) σ
  | powI {i j} (h0 : 0 ≤ j) (h1 : j ≤ 1000000) (h2 : i.natAbs < 2 ^ 64) : BinR σ .Pow (.d (.int i)) (.d (.int j)) (.d (.int (i ^ j.toNat))) σ
  | shrI {i j} (h : 0 ≤ j) : BinR σ .RShift (.d (.int i)) (.d (.int j)) (.d (.int (i.fdiv (2 ^ j.toNat)))) σ
  | andI {i j} : BinR σ .BitAnd (.d (.int i)) (.d (.int j)) (.d (.int (Builtin.bitAnd i j))) σ
noncomputable abbrev binK (op : Operator) (Q : VQ) (a b : V) (σ : List MO) : Prop := match op with
  | .Add => alt (em a) (fun i => fB (em b) fun j => Q (.d (.int (i + j))) σ) (u8 (BinR σ .Add a b) Q)
  | .Sub => fB (em a) fun i => fB (em b) fun j => Q (.d (.int (i - j))) σ
  | op => u8 (BinR σ op a b) Q
theorem uD (vs : List Value) : ∀ (k : Nat) (acc : List Value), uS (fun x1 x2 => x1 ++ x2) acc.toArray (ay k vs.toArray) = (acc ++ (ay k vs).flatten).toArray
  | 0, acc => (congrArg cH (ar acc)).symm
  | k + 1, acc => by rw [fQ, f0, jf, uD vs k, fQ, b6, ag]
theorem kJ (a b : String) : aa (a ++ b) = aa a ++ aa b := by
  rw [bu, bu, bu]
  show _ = (⟨(a.toList.map Char.toNat).toArray ++ (b.toList.map Char.toNat).toArray⟩ : Str)
  rw [String.toList_append, aB, jf]
theorem eH (a : String) : (aa a).length = a.length := by rw [bu]; exact (aX ..).trans (ah ..)
theorem dO {α : Type} {l : List α} {n : Nat} (h : l.length = n) : l.toArray.size = n := (aX ..).trans h
section
variable {W : Wd} {A : Around} {c : Cf}
theorem wF {a b : V} {va vb : Value} {l m : List D} {Q : Value → Shared → Prop} (R : RelH W c) (ra : RepV c.G c.φ a va) (rb : RepV c.G c.φ b vb) (h : cu c.σ a = some l) (h' : cu c.σ b = some m) (z : l.length + m.length ≤ 16777216)
    (q : ∀ vs h n, All2 (Rep c.G) (l ++ m) vs → h.get? c.s.heap.objs.size = some (listOf vs.toArray n) → (∀ b o, c.s.heap.get? b = some o → h.get? b = some o) → Q (.ref c.s.heap.objs.size) { c.s with heap := h }) : wpAny W.M A (binaryOp .Add va vb) Q eS c.s := by
  refine R.list h ra fun la vs n g _ r => R.list h' rb fun lb us n' g' _ r' => ?_
  have z' : vs.toArray.size + us.toArray.size ≤ sizeLine := by rw [dO r.length, dO r'.length]; exact z
  have ta : c.s.TypeIs (.ref la) "list" := ⟨_, g, rfl⟩
  have tb : c.s.TypeIs (.ref lb) "list" := ⟨_, g', rfl⟩
  with_reducible refine wpAny_binaryOp_concat (T := "list") ta tb noFill_list_add seq_list_add ?_
  with_reducible refine call_meets PySem.F.slot_list_add ta PySem.F.entry_list_add (PySem.F.args_list_add_2 _ _) (AutoSeq1.list___add___list_list_0 la vs.toArray n lb us.toArray n' z') ?_
  refine ⟨g, g', ?_⟩
  rw [jf]
  exact q (vs ++ us) _ 0 (r.append r') (Heap.get?_push_size _ rfl) (bC _ _)
theorem vw {l m : List D} (z : l.length + m.length ≤ 16777216) : (l ++ m).length ≤ 16777216 := by rw [ac]; exact z
theorem rW {α : Type} {l : List α} : ∀ k : Nat, (ay k l).flatten.length = l.length * k
  | 0 => rfl
  | k + 1 => by rw [fQ, b6, ac, rW k, Nat.mul_succ, bq]
theorem AZ {a : V} {va : Value} {l : List D} {k : Int} {t : Tok} {Q : VQ} (R : RelH W c) (ra : RepV c.G c.φ a va) (h : cu c.σ a = some l) (h0 : 0 ≤ k) (hk : k ≤ 16777216) (z : l.length * k.toNat ≤ 16777216)
    (q : Q (.hd c.σ.length) (c.σ ++ [.list (ay k.toNat l).flatten])) : wpAny W.M A (binaryOp .Mult va (.int k t)) (Post [] W c (Val Q)) eS c.s := by
  refine R.list h ra fun la vs n g _ r => ?_
  have hz : vs.toArray.size * k.toNat ≤ 16777216 := by rw [dO r.length]; exact z
  have e : uS (fun x1 x2 => x1 ++ x2) #[] (ay (if vs.toArray.isEmpty = true then 0 else k.toNat) vs.toArray) = ((ay k.toNat vs).flatten).toArray := by
    have z := uD vs k.toNat []
    induction vs using List.casesOn with
    | nil => exact (show (#[] : Array Value) = cH [] from rfl).trans (congrArg _ (List.eq_nil_of_length_eq_zero ((rW _).trans (Nat.zero_mul _))).symm)
    | cons v r => exact z
  have ta : c.s.TypeIs (.ref la) "list" := ⟨_, g, rfl⟩
  have i1 : ¬(!Builtin.List.listFitsIndex k) = true := by simp [Builtin.List.listFitsIndex]; exact ⟨aH (.L .O .A (.P (.g (.n 9223372036854775808)) .A)) rf [] [_] h0, aH (.L .A (.n 16777216) (.Q .A (.n 9223372036854775808))) rf [] [_] hk⟩
  have i2 : ¬vs.toArray.size * k.toNat > (2 ^ 63 - 1) / 8 := a7.mpr (ab hz (by decide))
  have i3 : ¬Builtin.List.listTooLong (vs.toArray.size * k.toNat) = true := by simp only [Builtin.List.listTooLong, sv]; exact fun q => a7.mpr hz (of_decide_eq_true q)
  with_reducible refine wpAny_binaryOp_repeat_ref (T := "list") (U := "int") (by decide) ta (fun s' => typeIs_int s' k t) noFill_list_mul PySem.F.fills_int_mul PySem.F.slot_int_rmul repeat_list PySem.F.slot_int_index.lookup ?_
  with_reducible refine call_meets PySem.F.slot_int_rmul (typeIs_int _ k t) PySem.F.entry_int_rmul (PySem.F.args_int_rmul_2 _ _) (int___rmul___int_list k t la vs.toArray n) ?_
  refine ⟨g, rfl, ta, ?_⟩
  with_reducible refine call_meets PySem.F.slot_list_mul ta PySem.F.entry_list_mul (PySem.F.args_list_mul_2 _ _) (AutoListH.list___mul___list_int_3 la vs.toArray n k t i1 i2 i3) ?_
  refine ⟨g, ?_⟩
  rw [e]
  exact mj (n := 0) R (b5 _) (Heap.get?_push_size _ rfl) (bC _ _) (by rw [rW]; exact z) (r.rep _) q
theorem BinR.ok (R : RelH W c) {Q : VQ} {op : Operator} {a b v : V} {σ' : List MO} (h : BinR c.σ op a b v σ') : ∀ va vb : Value, RepV c.G c.φ a va → RepV c.G c.φ b vb → Q v σ' → wpAny W.M A (binaryOp op va vb) (Post [] W c (Val Q)) eS c.s := by
  induction h using BinR.casesOn with
  | addB z => exact fun _ _ ra rb q => ra.bytes fun _ _ => rb.bytes fun _ _ => bytes_add_K (by rw [aX, aX]; exact z) rfl fun t' k => cj R (.bytes _ (by rw [ac]; exact z)) q
  | addS z => exact fun _ _ ra rb q => ra.str fun _ => rb.str fun _ => add_str (fun t' k => cj R (kJ .. ▸ .str _ _) q) (by rw [eH, eH]; exact z)
  | addL h h' z => exact fun _ _ ra rb q => wF R ra rb h h' z fun vs h n r ho kp => oT R (b5 _) ho kp (vw z) r q
  | addH h h' z => exact fun _ _ ra rb q => wF R ra rb h h' z fun vs h n r ho kp => mj R (b5 _) ho kp (vw z) r q
  | mulB h1 h2 h3 h4 => exact fun _ _ ra rb q => ra.bytes fun _ _ => rb.int fun _ => bytes_mul_any h1 h3 h4 h2 fun t' k' => cj R (.bytes _ (by rw [rW]; exact ab (Nat.mul_le_mul h2 (Int.toNat_le_toNat h4)) (by decide))) q
  | mulH h h1 h2 z => exact fun _ _ ra rb q => rb.int fun _ => AZ R ra h h1 h2 z q
  | @mulI i j h => exact fun _ _ ra rb q => ra.int fun _ => rb.int fun _ => mul_int (cj R (.int _ _) q) (IntMulOk.of_left (intBits_le_64 (by have h1 := na (i := i); exact aH (.L (.g .A) (.c .A) (.t .A (.n 1152921504606846976) (.Q (.g (.n 18446744073709551616)) .A))) rf [_] [_] h1.2 h) (by have h1 := na (i := i); exact aH (.L .A (.c .A) (.t .A (.n 1152921504606846976) (.Q .A (.n 18446744073709551616)))) rf [_] [_] h1.1 h)))
  | divI h h' => exact fun _ _ ra rb q => ra.int fun _ => rb.int fun _ => floordiv_int h (cj R (.int _ _) q) (.inl (PyProof.noPylong_small h'))
  | modI h => exact fun _ _ ra rb q => ra.int fun _ => rb.int fun _ => mod_int' h (cj R (.int _ _) q)
  | powI h0 h1 h2 => exact fun _ _ ra rb q => ra.int fun _ => rb.int fun _ => by with_reducible exact pow_int_small h0 h1 h2 (cj R (.int _ _) q)
  | shrI h => exact fun _ _ ra rb q => ra.int fun _ => rb.int fun _ => rshift_int h (cj R (.int _ _) q)
  | andI => exact fun _ _ ra rb q => ra.int fun _ => rb.int fun _ => and_int (cj R (.int _ _) q)
theorem binK_ok {op : Operator} {a b : V} {va vb : Value} {Q : VQ} (R : RelH W c) (H : binK op Q a b c.σ) (ra : RepV c.G c.φ a va) (rb : RepV c.G c.φ b vb) : wpAny W.M A (binaryOp op va vb) (Post [] W c (Val Q)) eS c.s := by
  have two : ∀ {F : Int → Int → Prop} {P : Value → Value → Prop} {i : Int}, em a = some i → fB (em b) (F i) → (∀ j t u, F i j → P (.int i t) (.int j u)) → P va vb := fun e h k => by
    obtain ⟨j, e', h⟩ := bI h
    exact jH e ra fun t => jH e' rb fun u => k j t u h
  have rel : ∀ {op}, u8 (BinR c.σ op a b) Q → wpAny W.M A (binaryOp op va vb) (Post [] W c (Val Q)) eS c.s := fun H => by
    obtain ⟨v, σ', h, q⟩ := H
    exact h.ok R va vb ra rb q
  induction op using PySem.Operator.casesOn with
  | Add => exact l5 H (fun i e h => two (F := fun i j => Q (.d (.int (i + j))) c.σ) (P := fun va vb => wpAny W.M A (binaryOp .Add va vb) (Post [] W c (Val Q)) eS c.s) e h fun j t u z => add_int (cj R (.int _ _) z)) rel
  | Sub =>
    obtain ⟨i, e, h⟩ := bI H
    exact two (F := fun i j => Q (.d (.int (i - j))) c.σ) (P := fun va vb => wpAny W.M A (binaryOp .Sub va vb) (Post [] W c (Val Q)) eS c.s) e h fun j t u z => sub_int (cj R (.int _ _) z)
  | _ => exact rel H
end
inductive IdxR (σ : List MO) : V → V → V → Prop
  | it {a l y i} (h : cu σ a = some l) (h0 : 0 ≤ i) (g : l[i.toNat]? = some y) : IdxR σ a (.d (.int i)) (.d y)
  | last {a l y} (h : cu σ a = some (l ++ [y])) : IdxR σ a (.d (.int (-1))) (.d y)
  | tup {l y i} (h0 : 0 ≤ i) (g : l[i.toNat]? = some y) : IdxR σ (.d (.tup l)) (.d (.int i)) (.d y)
  | str {x ch i} (h0 : 0 ≤ i) (z : x.length ≤ 16777216) (g : x.toList[i.toNat]? = some ch) : IdxR σ (.d (.str x)) (.d (.int i)) (.d (.str (String.singleton ch)))
  | hls {k l y i} (h : σ[k]? = some (.hls l)) (h0 : 0 ≤ i) (g : l[i.toNat]? = some y) : IdxR σ (.hd k) (.d (.int i)) (.hd y)
  | imap {k m z i y} (h : σ[k]? = some (.imap m z)) (g : m i = some y) : IdxR σ (.hd k) (.d (.int i)) (.d (.int y))
  | bmap {k m z i y} (h : σ[k]? = some (.bmap m z)) (g : m i = some y) : IdxR σ (.hd k) (.d (.bytes i)) (.d (.int y))
  | tmap {k m z i y} (h : σ[k]? = some (.tmap m z)) (g : m i = some y) : IdxR σ (.hd k) (.d (.tup [.bool false, .bytes i])) (.d (.int y))
theorem AY {i : Int} {n : Nat} (h0 : 0 ≤ i) (h : i.toNat < n) (z : n ≤ 16777216) : i < 2 ^ 63 := by exact aH (.w .A (.c .A) (.t .A .B (.l .B (.n 16777216) (.Q .A (.n 9223372036854775808))))) rf [_,_] [_] (aE h0) h z
theorem kS {α : Type} {l : List α} {i : Nat} {y : α} (h : l[i]? = some y) : i < l.length := (aQ.mp h).1
theorem l4 {α : Type} {l : List α} {i : Nat} {y : α} (h : l[i]? = some y) : l.toArray[i]? = some y := (mw ..).trans h
theorem xI {i : Int} {n : Nat} (h0 : 0 ≤ i) (h : i.toNat < n) : seqIndex? i n = some i.toNat := by
  unfold seqIndex?
  simp only [bh.mpr h0, if_false]
  exact if_pos (by simp; exact ⟨aH (.L .O .A (.P .O .A)) rf [] [_] h0, aH (.w .A (.c .A) (.t .A .B (.Q .A (.c .B)))) rf [_,_] [_] (aE h0) h⟩)
theorem vg {o : Option Int} {v : Option Value} {i : Int} (h : OptAt o v) (e : o = some i) : ∃ t, v = some (.int i t) := by
  induction h using OptAt.casesOn with
  | none => cases e
  | some h => cases e; induction h using IntAt.casesOn; exact ⟨_, rfl⟩
section
variable {W : Wd} {A : Around} {n : Nat} {c : Cf}
theorem IdxR.ok (hA : Ok n A) (R : RelH W c) {Q : VQ} {a i y : V} (h : IdxR c.σ a i y) : ∀ va vi : Value, RepV c.G c.φ a va → RepV c.G c.φ i vi → Q y c.σ → wpAny W.M A (getItem va vi) (Post [] W c (Val Q)) eS c.s := by
  induction h using IdxR.casesOn with
  | it h h0 g =>
    intro va vi ra ri q
    refine ri.int fun t => R.list h ra fun la vs k ga z rs => ?_
    obtain ⟨v, hv, rv⟩ := rs.get g
    exact wpAny_getItem_list (uz ga) h0 (AY h0 (kS g) z) (l4 hv) (dw R (.d rv) q)
  | @last _ l y h =>
    intro va vi ra ri q
    refine ri.int fun t => R.list h ra fun la vs k ga z rs => ?_
    obtain ⟨v, hv, rv⟩ := rs.get (i := l.length) (a := y) jP
    have e : vs.toArray.size = l.length + 1 := by rw [aX, rs.length, ac]; rfl
    exact wpAny_getItem_list_neg (uz ga) (by decide) (by rw [e]; exact aH (.P (.g (.c (.a .A .I))) (.g .I)) rf [_] []) (by decide) (by rw [e, show (-1 + ((l.length + 1 : Nat) : Int)).toNat = l.length by exact aH (.u (.c .A) (.a (.g .I) (.c (.a .B .I))) (.o .A .B)) rf [_,_] [] (aE (aH (.P .O (.a (.g .I) (.c (.a .A .I)))) rf [_] []))]; exact l4 hv) (dw R (.d rv) q)
  | tup h0 g =>
    intro va vi ra ri q
    refine ri.int fun t => R.tup ra fun la vs k ga z rs => ?_
    obtain ⟨v, hv, rv⟩ := rs.get g
    exact PyProof.Rows.getItem_tuple (isT' ga) (b9 (by decide) h0) (AY h0 (kS g) z) (xI h0 (by rw [aX]; exact kS hv)) (l4 hv) (dw R (.d rv) q)
  | @str x ch i h0 z g =>
    intro va vi ra ri q
    refine ri.int fun t => ra.str fun u => ?_
    have hl : i.toNat < x.length := kS g
    have e1 : (aa x).cps[i.toNat]? = some ch.toNat := by rw [bu]; exact l4 (bR .. |>.trans (g ▸ rfl))
    have hr : (decide (i < -(2 ^ 63 : Int)) || decide (i ≥ 2 ^ 63)) = false := by rw [decide_eq_false (bh.mpr (b9 (by decide) h0)), decide_eq_false (eW.mpr (AY h0 hl z))]; rfl
    have hs : (seqIndex? i (aa x).length).bind ((aa x).cps[·]?) = some ch.toNat := by rw [eH, xI h0 hl]; exact e1
    exact getItem_gives (typeIs_str _ _ u) (by decide) PySem.F.slot_str_getitem PySem.F.entry_str_getitem (PySem.F.args_str_getitem_2 _ _) (gives_str_getitem _ i u t _ hr hs) ⟨(by decide : 1 ≤ sizeLine), cj R ((show aa (String.singleton ch) = ⟨#[ch.toNat]⟩ by rw [bu]; simp) ▸ .str _ _) q⟩
  | hls h h0 g =>
    intro va vi ra ri q
    refine ri.int fun t => ra.hd_ fun p hp => ?_
    cases R.objs hp h with | hls ga z rs =>
    obtain ⟨v, hv, rv⟩ := rs.get g
    exact wpAny_getItem_list (uz ga) h0 (AY h0 (kS g) z) (l4 hv) (dw R rv q)
  | imap h g =>
    intro va vi ra ri q
    refine ri.int fun t => ra.hd_ fun p hp => (R.objs hp h).imap_ fun f hf hv _ => ?_
    obtain ⟨u, e⟩ := vg (hv _) g
    exact wpAny_getItem_of (intKind_is _ _ _ t) hf e (cj R (.int _ _) q)
  | bmap h g =>
    intro va vi ra ri q
    refine ri.bytes fun _ t => ra.hd_ fun p hp => (R.objs hp h).bmap_ fun f hf _ hv => ?_
    obtain ⟨u, e⟩ := vg (hv _) g
    exact wpAny_getItem_of (i9 _ _ _ t) hf.mapOf e (cj R (.int _ _) q)
  | tmap h g =>
    intro va vi ra ri q
    cases R.key ri with | mk _ hk =>
    refine ra.hd_ fun p hp => ?_
    cases R.tmap (R.objs hp h) with | mk hd hv _ _ =>
    obtain ⟨u, e⟩ := vg (hv _) g
    obtain ⟨⟨a, v⟩, e, rfl⟩ := bo.mp e
    exact wpAny_getItem_heap (hA.room (W := W)) hk hd e (cj R (.int _ _) q)
noncomputable def a9 {α : Type} (l : List α) (lo hi : Option Int) : List α := (l.drop (kms_lo lo l.length)).take (kms_hi hi l.length - kms_lo lo l.length)
theorem nY {α : Type} (l : List α) (lo hi : Option Int) : (a9 l lo hi).length ≤ l.length := by
  unfold a9; rw [kU, ik]; exact ab (Nat.min_le_right _ _) (Nat.sub_le _ _)
inductive SlcR (σ : List MO) (lo hi : Option Int) : V → V → Prop
  | bytes (b) : SlcR σ lo hi (.d (.bytes b)) (.d (.bytes (a9 b lo hi)))
  | lst {a l} (h : cu σ a = some l) : SlcR σ lo hi a (.d (.lst (a9 l lo hi)))
theorem SlcR.ok (R : RelH W c) {Q : VQ} {lo hi : Option Int} {vl vu : Value} (pl : IsPart vl lo) (pu : IsPart vu hi) {a v : V} (h : SlcR c.σ lo hi a v) : ∀ va : Value, RepV c.G c.φ a va → Q v c.σ → ∀ c', c' = c.to (c.s.heap.push { cls := .type "slice", data := .fields #[vl, vu, .none] }) c.s.toks →
    wpAny W.M A (getItem va (.ref c.s.heap.objs.size)) (Post [] W c' (Val Q)) eS c'.s := by
  induction h using SlcR.casesOn with
  | bytes b =>
    intro va ra q c' e'
    refine ra.bytes fun z t => ?_
    subst e'
    have R' := (R.more (X := []) (k := c.s.toks) (bC c.s.heap { cls := .type "slice", data := .fields #[vl, vu, .none] })).H
    have e : (KBy.picked b.toArray lo hi) = (a9 b lo hi).toArray := by
      unfold KBy.picked Builtin.Bytes.sliced
      rw [kms_bounds, sliceRange_one, pick_run, aX]; rfl
    have hz := ab (nY b lo hi) z
    exact getItem_meets (typeIs_bytes _ _ _) (by decide) FB.slot_bytes_getitem FB.entry_bytes_getitem (FB.args_bytes_getitem_2 _ _) (KBc.meets_slice2 b.toArray t c.s.heap.objs.size pl pu) ⟨Heap.IsSliceOf.new _ _ _ _, by rw [e, aX]; exact hz, fun t' k => by rw [e]; exact cj R' (.bytes _ hz) q⟩
  | @lst _ l h =>
    intro va ra q c' e'
    refine R.list h ra fun la vs n g z r => ?_
    subst e'
    have kp := bC c.s.heap { cls := .type "slice", data := .fields #[vl, vu, .none] }
    have R' := (R.more (X := []) (k := c.s.toks) kp).H
    have hsz : vs.toArray.size ≤ sizeLine := by rw [dO r.length]; exact z
    have hs := Heap.IsSliceOf.new c.s.heap vl vu .none
    have rs : All2 (Rep c.G) (a9 l lo hi) (kms_pick vs lo hi) := by unfold a9 kms_pick; rw [r.length]; exact (r.drop _).take _
    with_reducible refine wpAny_getItem_list_slice (uz (kp _ _ g)) hs pl pu .none (by simp) ?_ hsz
    rw [kms_pick_eq]
    exact oT (n := 0) R' (b5 _) (Heap.get?_push_size _ rfl) (bC _ _) (ab (nY _ _ _) z) rs q
theorem oS {Q : VQ} {k : Nat} {p : Addr × Addr} {l l' : List D} {vs' : List Value} {n' tk : Nat} {h' : Heap} {x : D} {v : Value} (R : RelH W c) (h1 : c.φ[k]? = some p) (h2 : c.σ[k]? = some (.list l)) (hs : Heap.SameBut p.1 c.s.heap h')
    (ho : h'.get? p.1 = some (listOf vs'.toArray n')) (hz : l'.length ≤ 16777216) (r : All2 (Rep c.G) l' vs') (rx : Rep c.G x v) (q : Q (.d x) (c.σ.set k (.list l'))) : Post [] W c (Val Q) v { c.s with heap := h', toks := tk } :=
  .mk (R.upd h1 h2 (fun b => ⟨fun o => by cases o; exact .list, fun o => by cases o; exact .list⟩) (fun b o n e => (hs.2 b fun q => n (q ▸ .list)).trans e) (fun b o => by cases o; rw [ho]; rfl) (.list ho hz r)) (.mk (.d rx) q)
theorem Ab {Q : VQ} {k : Nat} {x : D} {vo v : Value} {l : List D} (R : RelH W c) (h2 : c.σ[k]? = some (.list l)) (hz : l.length < 16777216) (ro : RepV c.G c.φ (.hd k) vo) (rx : Rep c.G x v) (q : Q (.d .none) (c.σ.set k (.list (l ++ [x])))) :
    wpAny W.M A (call (.builtin "list.append") [vo, v]) (Post [] W c (Val Q)) eS c.s := by
  refine ro.hd_ fun p hp => (R.objs hp h2).list_ fun vs n g z r => ?_
  refine append_at (hsz := (by rw [dO r.length]; exact z)) g fun h' hs ho => ?_
  rw [qS] at ho
  exact oS R hp h2 hs ho (by rw [ac]; exact hz) (r.append (.cons rx .nil)) .none q
theorem o6 {h : Heap} {a : Addr} {vs : List Value} {n : Nat} (g : h.get? a = some (listOf vs.toArray n)) (f : Array Value → Array Value) : ∃ n', (h.update a (Obj.mapSeq f)).get? a = some (listOf (f vs.toArray) n') :=
  ⟨_, Heap.get?_update_self _ g rfl⟩
theorem zU {Q : VQ} {k : Nat} {b : V} {vo vb : Value} {l m : List D} (R : RelH W c) (h2 : c.σ[k]? = some (.list l)) (hb : cu c.σ b = some m) (hz : l.length + m.length ≤ 16777216) (ro : RepV c.G c.φ (.hd k) vo) (rb : RepV c.G c.φ b vb) (q : Q (.d .none) (c.σ.set k (.list (l ++ m)))) :
    wpAny W.M A (call (.builtin "list.extend") [vo, vb]) (Post [] W c (Val Q)) eS c.s := by
  refine ro.hd_ fun p hp => (R.objs hp h2).list_ fun vs n g z r => R.list hb rb fun lb us n' g' z' r' => ?_
  have e1 : vs.toArray.size + us.toArray.size = l.length + m.length := by rw [dO r.length, dO r'.length]
  have c0 : ¬(!vs.toArray.isEmpty && Builtin.List.listTooLong (vs.toArray.size + us.toArray.size)) = true := by
    rw [e1]; intro q; exact a7.mpr hz (of_decide_eq_true (aD .. |>.mp q).2)
  have ta : c.s.TypeIs (.ref p.1) "list" := ⟨_, g, rfl⟩
  with_reducible refine call_meets PySem.F.slot_list_extend ta PySem.F.entry_list_extend (PySem.F.args_list_extend_2 _ _) (AutoSeq1.list_extend_list_list_0 p.1 vs.toArray n lb us.toArray n' c0 (by rw [dO r.length, sv]; exact z) (by rw [e1, sv]; exact bg hz)) ?_
  refine ⟨g, g', ?_⟩
  obtain ⟨n2, ho⟩ := o6 g (fun x => x ++ us.toArray)
  rw [jf] at ho
  exact oS R hp h2 (Heap.SameBut.update _ _ _) ho (vw hz) (r.append r') .none q
theorem pop_ok {Q : VQ} {k : Nat} {y : D} {vo : Value} {l : List D} (R : RelH W c) (h2 : c.σ[k]? = some (.list (l ++ [y]))) (ro : RepV c.G c.φ (.hd k) vo) (q : Q (.d y) (c.σ.set k (.list l))) :
    wpAny W.M A (call (.builtin "list.pop") [vo]) (Post [] W c (Val Q)) eS c.s := by
  refine ro.hd_ fun p hp => (R.objs hp h2).list_ fun vs n g z r => ?_
  have e1 : vs.length = l.length + 1 := r.length.trans (ac ..)
  obtain ⟨v, hv, rv⟩ := r.get (i := l.length) (a := y) jP
  have ta : c.s.TypeIs (.ref p.1) "list" := ⟨_, g, rfl⟩
  have hy : vs.toArray[vs.toArray.size - 1]? = some v := by rw [aX, e1, dJ]; exact l4 hv
  with_reducible refine call_meets PySem.F.slot_list_pop ta PySem.F.entry_list_pop (PySem.F.args_list_pop_1 _) (MeetsSeq.list_pop_last p.1 vs.toArray n v hy (by rw [dO r.length, sv]; exact z)) ?_
  refine ⟨g, ?_⟩
  obtain ⟨n2, ho⟩ := o6 g (fun xs => xs.eraseIdxIfInBounds (vs.toArray.size - 1))
  have e : vs.toArray.eraseIdxIfInBounds (vs.toArray.size - 1) = (vs.take l.length).toArray := by
    rw [rI, aX, e1, dJ, List.eraseIdx_eq_take_drop_succ, xr (aW e1), ar]
  rw [e] at ho
  have r' := r.take l.length
  rw [nJ] at r'
  exact oS R hp h2 (Heap.SameBut.update _ _ _) ho (ab (by rw [ac]; exact ai _ _) z) r' rv q
theorem pop0_ok {Q : VQ} {k : Nat} {y : D} {vo : Value} {t : Tok} {l : List D} (R : RelH W c) (h2 : c.σ[k]? = some (.list (y :: l))) (ro : RepV c.G c.φ (.hd k) vo) (q : Q (.d y) (c.σ.set k (.list l))) :
    wpAny W.M A (call (.builtin "list.pop") [vo, .int 0 t]) (Post [] W c (Val Q)) eS c.s := by
  refine ro.hd_ fun p hp => (R.objs hp h2).list_ fun vs n g z r => ?_
  obtain ⟨v, vr, rfl, rv, r⟩ : ∃ v vr, vs = v :: vr ∧ Rep c.G y v ∧ All2 (Rep c.G) l vr := r.un fun v vr a b => ⟨v, vr, rfl, a, b⟩
  have ta : c.s.TypeIs (.ref p.1) "list" := ⟨_, g, rfl⟩
  have hk : seqIndex? 0 (v :: vr).toArray.size = some 0 := xI (cA 0) (by rw [aX]; exact cK _)
  have zz : (v :: vr).toArray.size ≤ sizeLine := ab (aW (congrArg (· + 1) r.length)) z
  with_reducible refine call_meets PySem.F.slot_list_pop ta PySem.F.entry_list_pop (PySem.F.args_list_pop_2 _ _) (MeetsSeq.list_pop_at p.1 _ n 0 t 0 v (by decide) hk (l4 (l := v :: vr) rfl) zz) ?_
  refine ⟨g, ?_⟩
  obtain ⟨n2, ho⟩ := o6 g (fun xs => xs.eraseIdxIfInBounds 0)
  rw [rI] at ho
  exact oS R hp h2 (Heap.SameBut.update _ _ _) ho (bf z) r rv q
end
noncomputable def yD {α : Type} [DecidableEq α] (m : α → Option Int) (j : α) (y : Int) : α → Option Int := fun k => if k = j then some y else m k
inductive SetR (σ : List MO) : V → V → V → List MO → Prop
  | list {k l j x} (h : σ[k]? = some (.list l)) (h0 : 0 ≤ j) (h1 : j.toNat < l.length) : SetR σ (.hd k) (.d (.int j)) (.d x) (σ.set k (.list (l.set j.toNat x)))
  | imap {k m z j y} (h : σ[k]? = some (.imap m z)) (hz : z < 16777216) : SetR σ (.hd k) (.d (.int j)) (.d (.int y)) (σ.set k (.imap (yD m j y) (z + 1)))
  | bmap {k m z j y} (h : σ[k]? = some (.bmap m z)) (hz : z < 16777216) (hn : m j = none) : SetR σ (.hd k) (.d (.bytes j)) (.d (.int y)) (σ.set k (.bmap (yD m j y) (z + 1)))
  | tmap {k m z j y} (h : σ[k]? = some (.tmap m z)) (hz : z < 16777216) (hn : m j = none) : SetR σ (.hd k) (.d (.tup [.bool false, .bytes j])) (.d (.int y)) (σ.set k (.tmap (yD m j y) (z + 1)))
theorem wq {o : Option Int} {v : Option Value} (h : OptAt o v) (e : o = none) : v = none := by induction h using OptAt.casesOn with | none => rfl | some _ => cases e
theorem xJ {α : Type} [DecidableEq α] {m : α → Option Int} {f f' : α → Option Value} {j : α} {y : Int} {t : Tok} (h : ∀ k, OptAt (m k) (f k)) (e : f' j = some (.int y t)) (e' : ∀ k, k ≠ j → f' k = f k) (k : α) : OptAt (yD m j y k) (f' k) := by
  by_cases q : k = j
  · rw [q, e, show yD m j y j = some y from if_pos rfl]; exact .some ⟨t⟩
  · rw [e' k q, show yD m j y k = m k from if_neg q]; exact h k
section
variable {W : Wd} {A : Around} {n : Nat} {c : Cf}
theorem tP {a : Addr} {vs : List Value} {k : Nat} {j : Int} {t : Tok} {v : Value} {Q : Unit → Shared → Prop} {E : Value → Shared → Prop} {s : Shared} (ho : s.heap.get? a = some (listOf vs.toArray k)) (h0 : 0 ≤ j) (hfit : j < 2 ^ 63) (hn : j.toNat < vs.length)
    (q : Q () { s with heap := s.heap.update a (Obj.mapSeq (·.setIfInBounds j.toNat v)) }) : wpAny W.M A (setItem (.ref a) (.int j t) v) Q E s := by
  have hl := uz ho
  unfold setItem
  with_reducible refine wpAny_holding ?_
  refine wpAny_bind (wpAny_sequenceKey hl.typeIs (by decide) ?_)
  refine wpAny_bind (wpAny_callSpecial?_slot (name := aa "__setitem__") hl.typeIs slot_list_setitem
    (wpAny_call_entry slot_list_setitem hl.typeIs entry_list_setitem ?_ (args_list_setitem _ _ _)))
  show wpAny _ _ (Builtin.List.listSubscript? (.int j t) >>= _) _ _ s
  refine wpAny_bind (wpAny_listSubscript_int (fitsIndex_of h0 hfit) ?_)
  obtain ⟨i, rfl⟩ := bF h0
  have hx' : vs.toArray[i]? = some vs[i] := l4 (aO hn)
  show wpAny _ _ ((seqItemAt a i >>= fun r => pure (r.map (i, ·))) >>= _) _ _ s
  refine wpAny_bind (wpAny_bind (wpAny_seqItemAt ho rfl (wpAny_pure ?_)))
  rw [hx']
  show wpAny _ _ (setSeqItemAt a i v >>= _) _ _ s
  refine wpAny_bind (wpAny_setSeqItemAt ho rfl ?_)
  exact wpAny_bind (wpAny_pure (wpAny_pure ⟨.none, rfl, wpAny_pure q⟩))
section
variable {K : Type} [DecidableEq K] {knd : KeyKind W.prog W.w K} {s : Shared}
theorem x7 {d : Addr} {f : K → Option Value} {k : K} {key v : Value} {Q : Unit → Shared → Prop} {E : Value → Shared → Prop} {z : Nat} (hkey : knd.is k key = true) (hm : s.heap.MapOf knd d f) (hle : s.heap.DictLe d z) (hz : z ≤ sizeLine)
    (hQ : ∀ h', h'.MapOf knd d (fun x => if x = k then some v else f x) → h'.DictLe d (z + 1) → Heap.SameBut d s.heap h' → Q () { s with heap := h', toks := s.toks + 1 }) : wpAny W.M A (dictSet d key v) Q E s := by
  obtain ⟨o, es, ep, ho, hc, hd, hk, hf⟩ := hm
  have hes : es.size ≤ z := hle _ _ _ ho hd
  unfold dictSet
  with_reducible refine wpAny_holding ?_
  refine wpAny_bind (knd.pyHash hkey ?_)
  unfold dictSetHashed
  with_reducible refine wpAny_holding ?_
  refine wpAny_bind (wpAny_dictFind_of (s := { s with toks := s.toks + 1 }) hkey ho hd hk ?_)
  cases hi : es.findIdx? fun e => knd.is k e.key with
  | some i =>
    have g := Heap.get?_update_self (Obj.mapDict fun es => es.modify i fun e => { e with val := v }) ho (Obj.isFreed_of_dict (Obj.data_mapDict hd _))
    refine wpAny_bind (wpAny_rule (wpAny_bind (wpAny_updateDict (s := { s with toks := s.toks + 1 }) ho hd (wpAny_point (hQ _ ⟨_, _, ep, g, hc.mapDict _, Obj.data_mapDict hd _, hk.modify _ _, fun x => ?_⟩ ?_ (Heap.SameBut.update ..))))))
    · rw [findBy_modify knd.is knd.inj es k x v i hi, hf]
    · intro o' es' ep' g' d'
      cases g.symm.trans g'
      cases (Obj.data_mapDict hd _).symm.trans d'
      rw [Array.size_modify]; exact bg hes
  | none =>
    refine wpAny_bind (wpAny_rule (wpAny_updateDictKeys (hz := ab hes hz) (s := { s with toks := s.toks + 1 }) ho hd (hQ _ ⟨_, _, ep + 1, Heap.get?_update_self _ ho (Obj.isFreed_of_dict (Obj.data_mapDictKeys hd _)),
      hc.mapDictKeys _, Obj.data_mapDictKeys hd _, hk.push hkey _, fun x => ?_⟩ ?_ (Heap.SameBut.update ..))))
    · rw [findBy_push knd.is es k x _ _ v (KeyKind.is_eq_decide hkey) hi, hf]
    · intro o' es' ep' g' d'
      rw [Heap.get?_update_self _ ho (Obj.isFreed_of_dict (Obj.data_mapDictKeys hd _))] at g'
      cases g'
      cases (Obj.data_mapDictKeys hd _).symm.trans d'
      rw [Array.size_push]; exact aj hes
theorem xH {d : Addr} {f : K → Option Value} {k : K} {key v : Value} {Q : Unit → Shared → Prop} {E : Value → Shared → Prop} {z : Nat} (hkey : knd.is k key = true) (hm : s.heap.MapOf knd d f) (hle : s.heap.DictLe d z) (hz : z ≤ sizeLine)
    (hQ : ∀ h', h'.MapOf knd d (fun x => if x = k then some v else f x) → h'.DictLe d (z + 1) → Heap.SameBut d s.heap h' → Q () { s with heap := h', toks := s.toks + 1 }) : wpAny W.M A (setItem (.ref d) key v) Q E s := by
  unfold setItem
  with_reducible refine wpAny_holding ?_
  refine wpAny_bind (wpAny_sequenceKey hm.typeIs (by decide) ?_)
  refine wpAny_bind (wpAny_callSpecial?_slot (name := aa "__setitem__") hm.typeIs slot_dict_setitem
    (wpAny_call_entry slot_dict_setitem hm.typeIs entry_dict_setitem ?_ (args_dict_setitem _ _ _)))
  show wpAny _ _ (Builtin.Dict.notOrdered "__setitem__" ⟨[.ref d, key, v], []⟩ >>= _) _ _ s
  refine wpAny_bind (wpAny_notOrdered_dict hm.typeIs ?_)
  show wpAny _ _ (dictSet d key v >>= _) _ _ s
  exact wpAny_bind (x7 hkey hm hle hz fun h' a b c => wpAny_pure ⟨.none, rfl, wpAny_pure (hQ h' a b c)⟩)
end
theorem SetR.ok (hA : Ok n A) (R : RelH W c) {Q : List MO → Prop} {o i x : V} {σ' : List MO} (h : SetR c.σ o i x σ') : ∀ vo vi v : Value, RepV c.G c.φ o vo → RepV c.G c.φ i vi → RepV c.G c.φ x v → Q σ' → wpAny W.M A (setItem vo vi v) (Post [] W c fun _ c' => Q c'.σ) eS c.s := by
  induction h using SetR.casesOn with
  | list h h0 h1 =>
    intro vo vi v ro ri rx q
    refine ri.int fun t => ro.hd_ fun p hp => (R.objs hp h).list_ fun vs n g z r => ?_
    obtain ⟨n2, ho⟩ := o6 g (·.setIfInBounds _ v)
    rw [List.setIfInBounds_toArray] at ho
    exact tP g h0 (AY h0 h1 z) (r.length ▸ h1) (.mk (R.upd hp h (fun b => ⟨fun o => by cases o; exact .list, fun o => by cases o; exact .list⟩) (fun b o n e => ((Heap.SameBut.update _ _ _).2 b fun q => n (q ▸ .list)).trans e) (fun b o => by cases o; rw [ho]; rfl) (.list ho ((c8 ..).symm ▸ z) (r.set rx.data _))) q)
  | @imap k m z j y h hz =>
    intro vo vi v ro ri rx q
    refine ri.int fun t => rx.int fun u => ro.hd_ fun p hp => (R.objs hp h).imap_ fun f hf hv le => ?_
    refine xH (intKind_is _ _ _ t) hf le (gU hz) fun h' m' le' hs => ?_
    exact .mk (R.upd (h := h') hp h (fun b => ⟨fun o => by cases o; exact .imap, fun o => by cases o; exact .imap⟩) (fun b o n e => (hs.2 b fun q => n (q ▸ .imap)).trans e) (fun b o => by cases o; obtain ⟨o, _, _, ho, _⟩ := m'; rw [ho]; rfl) (.imap m' (xJ hv (if_pos rfl) fun _ q => if_neg q) le')) q
  | @bmap k m z j y h hz hn =>
    intro vo vi v ro ri rx q
    refine ri.bytes fun _ t => rx.int fun u => ro.hd_ fun p hp => (R.objs hp h).bmap_ fun kvs hk hl hv => ?_
    have hn : kvs.find? (fun kv => decide (kv.1 = j)) = none := kT.mp (wq (hv _) hn)
    have es : stored kvs j (.int y u) = kvs ++ [(j, .int y u)] := by
      unfold stored
      rw [show kvs.any (fun kv => decide (kv.1 = j)) = false from List.any_eq_false.mpr (List.find?_eq_none.mp hn)]; rfl
    refine wpAny_setItem_pairs (hsz := hl ▸ gU hz) (i9 _ _ _ t) hk fun h' m' hs => ?_
    rw [es] at m'
    refine .mk (R.upd (h := h') hp h (fun b => ⟨fun o => by cases o; exact .bmap, fun o => by cases o; exact .bmap⟩) (fun b o n e => (hs.2 b fun q => n (q ▸ .bmap)).trans e) (fun b o => by cases o; obtain ⟨o, _, _, ho, _⟩ := m'; rw [ho]; rfl) (.bmap m' (by rw [ac, hl]; rfl) (xJ (t := u) hv ?_ fun k q => ?_))) q
    · unfold valueAt; rw [qT, hn, dj, decide_eq_true rfl]; rfl
    · unfold valueAt; rw [qT, dj, decide_eq_false (Ne.symm q)]; exact congrArg _ (Option.or_none)
  | @tmap k m z j y h hz hn =>
    intro vo vi v ro ri rx q
    cases R.key ri with | @mk ka t kn kg hka =>
    refine rx.int fun u => ro.hd_ fun p hp => ?_
    cases R.tmap (R.objs hp h) with | @mk xs hd hv hlen hx =>
    have hn : xs.find? (fun x => decide (x.1 = [none, some j])) = none := kT.mp (kT.mp (wq (hv _) hn))
    have es : storedH xs [none, some j] ka (.int y u) = xs ++ [([none, some j], ka, .int y u)] := by
      unfold storedH atKey; rw [hn]; rfl
    have at1 : ∀ i : List UInt8, (atKey (xs ++ [([none, some j], ka, Value.int y u)]) [none, some i]).map (·.2) = if i = j then some (.int y u) else (atKey xs [none, some i]).map (·.2) := fun i => by
      unfold atKey
      rw [qT, dj]
      by_cases q : i = j
      · subst q; rw [hn, if_pos rfl, decide_eq_true rfl]; rfl
      · rw [if_neg q, decide_eq_false (fun e => q (cm.inj (eY.inj (eY.inj e).2).1).symm)]; exact congrArg _ (congrArg _ (Option.or_none))
    refine wpAny_setItem_heap (hsz := ab hlen (gU hz)) (hA.room (W := W)) hka hd fun h' m' hs => ?_
    rw [es] at m'
    obtain ⟨o, es, ep, ho, e1, e2, e3, e4, e5⟩ := m'
    refine .mk (R.upd (h := h') hp h (fun b => ⟨fun o => by cases o; exact .tmap, fun o => by cases o; exact .tmap⟩) (fun b o n e => (hs.2 b fun q => n (q ▸ .tmap)).trans e) (fun b o => by cases o; rw [ho]; rfl) (.tmap ho e1 e2 e3 (fun x mx => ?_) e5 (by rw [ac]; exact aj hlen) (xJ (t := u) hv ((at1 _).trans (if_pos rfl)) fun k q => (at1 _).trans (if_neg q)))) q
    rcases bk.mp mx with mx | mx
    · exact hx x mx
    · cases am.mp mx; exact ⟨j, t, _, rfl, kg⟩
end
noncomputable def BJ (K : Frag) (C : Addr) (x : Str) : Bool := plainGet K C x && hasDictIn K C && (findIn K (.ref C) x).any (noGet K)
noncomputable def rQ (K : Frag) (C : Addr) (x : Str) : Bool := findIn K (.ref C) "__setattr__" == some (some (.builtin "object.__setattr__")) && plainOver K C && takerIn K C x == some none && (clsIn K C).any (·.hasDict)
noncomputable def sM (K : Frag) (C : Addr) (x : Str) (f : Addr) : Bool := plainGet K C x && findIn K (.ref C) x == some (some (.ref f)) && isFn K (.ref f) && keepIn K (.ref f)
noncomputable def xR (K : Frag) (C f : Addr) : Bool := makesIn K C && findIn K (.ref C) "__init__" == some (some (.ref f)) && typeIn K (.ref f) == some (.type "function") && keepIn K (.ref C)
noncomputable def wu : List Str → Bool
  | [] => true
  | x :: r => !r.contains x && wu r
theorem ml : ∀ {l : List Str}, wu l = true → l.Nodup
  | [], _ => nK
  | x :: r, h => by
    obtain ⟨h1, h2⟩ := aD .. |>.mp h
    exact bt.mpr ⟨fun m => (by rw [ig.mpr m] at h1; cases h1), ml h2⟩
noncomputable def vB (K : Frag) (x : Str) (C i : Nat) : Bool := BJ K C x && rQ K C x && (xk C)[i]? == some x && wu (xk C)
noncomputable def ti (C : Nat) : List (Nat × Nat) → Option Nat
  | [] => none
  | (D, i) :: r => match rH D C with | true => some i | false => ti C r
noncomputable def zE {α : Type} : Nat → α → List α → List α
  | _, v, [] => [v]
  | 0, v, _ :: r => v :: r
  | i + 1, v, u :: r => u :: zE i v r
noncomputable def lQ (n x : Str) (t : Tok) : (Value.str n t).isStr x = decide (n = x) := by
  show (n == x) = _
  by_cases h : n = x
  · subst h; rw [beq_self_eq_true, decide_eq_true rfl]
  · rw [beq_eq_false_iff_ne.mpr h, decide_eq_false h]
theorem Keyed.any {ns es vs} (k : Keyed ns es vs) : es.any (·.refKey) = false := by
  induction k with
  | nil => rfl
  | cons _ ih => rw [eZ, ih]; rfl
theorem Keyed.length {ns es vs} (k : Keyed ns es vs) : es.length = vs.length := by
  induction k with
  | nil => rfl
  | cons _ ih => exact congrArg (· + 1) ih
theorem Keyed.get {x : Str} {v : Value} {ns es vs} (k : Keyed ns es vs) : ∀ {i : Nat}, ns.Nodup → ns[i]? = some x → vs[i]? = some v → getL x es = some (some v) := by
  induction k with
  | nil => exact fun _ _ h => nomatch h
  | @cons n ns h t u es vs k ih =>
    intro i hd hx hv
    obtain ⟨hd1, hd2⟩ := bt.mp hd
    unfold getL
    induction i using Nat.casesOn with
    | zero => cases hx; cases hv; rw [dj, lQ, decide_eq_true rfl]
    | succ i =>
      have ne : n ≠ x := fun e => hd1 (e ▸ cq hx)
      have z := ih hd2 hx hv
      unfold getL at z
      rw [dj, lQ, decide_eq_false ne, eZ]
      exact z
theorem Keyed.none_ {x : Str} {ns es vs} (k : Keyed ns es vs) : x ∉ ns → getL x es = some none := by
  induction k with
  | nil => exact fun _ => rfl
  | @cons n ns h t u es vs k ih =>
    intro m
    have z := ih fun q => m (.tail _ q)
    unfold getL at z ⊢
    rw [dj, lQ, decide_eq_false fun e : n = x => m (e ▸ .head _), eZ]
    exact z
theorem Keyed.put {x : Str} {v : Value} {hs : Int} {t' : Tok} {ns es vs} (k : Keyed ns es vs) : ∀ {i : Nat}, ns.Nodup → ns[i]? = some x → i ≤ vs.length → Keyed ns (putL x hs (.str x t') v es) (zE i v vs) := by
  induction k with
  | @nil ns =>
    intro i hd hx hi
    induction i using Nat.casesOn with
    | zero => induction ns using List.casesOn with
      | nil => cases hx
      | cons n ns => cases hx; exact .cons .nil
    | succ i => exact (iT _ hi).elim
  | @cons n ns h t u es vs k ih =>
    intro i hd hx hi
    obtain ⟨hd1, hd2⟩ := bt.mp hd
    unfold putL
    induction i using Nat.casesOn with
    | zero => cases hx; rw [lQ, decide_eq_true rfl]; exact .cons k
    | succ i => rw [lQ, decide_eq_false fun e : n = x => hd1 (e ▸ cq hx)]; exact .cons (ih hd2 hx (cZ hi))
theorem All2.put {α β : Type} {P : α → β → Prop} {a : α} {b : β} (h : P a b) {l : List α} {m : List β} (r : All2 P l m) : ∀ i, All2 P (zE i a l) (zE i b m) := by
  induction r with
  | nil => intro i; induction i using Nat.casesOn <;> exact .cons h .nil
  | cons p q ih => intro i; induction i using Nat.casesOn with
    | zero => exact .cons h q
    | succ i => exact .cons p (ih i)
theorem qH {x : Str} {k v : Value} {hs : Int} : ∀ es : List DictEntry, (putL x hs k v es).length ≤ es.length + 1
  | [] => au _
  | e :: r => by
    unfold putL
    split
    · exact bO _
    · exact aj (qH r)
noncomputable abbrev atM (cs : List (Nat × Nat)) (Q : VQ) (σ : List MO) (mo : MO) : Prop := match mo with
  | .inst C vs => fB (ti C cs) fun i => fB vs[i]? fun v => Q v σ
  | _ => False
noncomputable abbrev atK (cs : List (Nat × Nat)) (Q : VQ) (o : V) (σ : List MO) : Prop := match o with
  | .hd k => ldK σ k (atM cs Q σ)
  | .d (.inst C ds) => fB (ti C cs) fun i => fB ds[i]? fun d => Q (.d d) σ
  | _ => False
noncomputable abbrev stM (cs : List (Nat × Nat)) (k : Nat) (v : V) (σ : List MO) (F : List MO → Prop) (mo : MO) : Prop := match mo with
  | .inst C vs => fB (ti C cs) fun i => chk (uR i vs.length) (F (σ.set k (.inst C (zE i v vs))))
  | _ => False
noncomputable abbrev stK (cs : List (Nat × Nat)) (o v : V) (σ : List MO) (F : List MO → Prop) : Prop := match o with
  | .hd k => ldK σ k (stM cs k v σ F)
  | _ => False
noncomputable def FldOk (K : Frag) (x : Str) (cs : List (Nat × Nat)) : Prop := ∀ C i, ti C cs = some i → vB K x C i = true
theorem uP {α : Type} {o : Option α} {p : α → Bool} (h : o.any p = true) : ∃ a, o = some a ∧ p a = true := by induction o using Option.casesOn with | none => cases h | some a => exact ⟨a, rfl, h⟩
structure zt (K : Frag) (x : Str) (C i : Nat) : Prop where
  a : BJ K C x = true
  s : rQ K C x = true
  at_ : (xk C)[i]? = some x
  nd : (xk C).Nodup
theorem FldOk.at_ {K : Frag} {x : Str} {cs : List (Nat × Nat)} {C i : Nat} (T : FldOk K x cs) (h : ti C cs = some i) : zt K x C i := by
  have z := T C i h
  obtain ⟨z, d⟩ := aD .. |>.mp z
  obtain ⟨z, c⟩ := aD .. |>.mp z
  obtain ⟨a, b⟩ := aD .. |>.mp z
  exact ⟨a, b, beq_iff_eq.mp c, ml d⟩
theorem Rep.handed {G : Fz} {x : D} {v : Value} (r : Rep G x v) : handedIn v = true := by induction r using Rep.casesOn <;> rfl
theorem RepV.handed {G : Fz} {φ : rD} {x : V} {v : Value} (r : RepV G φ x v) : handedIn v = true := by
  induction r using RepV.casesOn with
  | d r => exact r.handed
  | hd e => rfl
section
variable {W : Wd} {A : Around} {n : Nat} {c : Cf}
theorem yU (R : RelH W c) {a C dx k i : Nat} {x : Str} {es : List DictEntry} {vs : List Value} {v : Value} {b : Bool} {Q : Value → Shared → Prop} (F : zt W.K x C i) (g : c.s.heap.get? a = some (instObj C dx)) (g' : c.s.heap.get? dx = some (dictOf es k)) (kk : Keyed (xk C) es vs) (hv : vs[i]? = some v) (hh : handedIn v = true)
    (q : Q v { c.s with toks := c.s.toks + 1 }) : wpAny W.M A (getAttr (.ref a) x b) Q eS c.s := by
  obtain ⟨k1, k3⟩ := aD .. |>.mp F.a
  obtain ⟨k1, k2⟩ := aD .. |>.mp k1
  obtain ⟨attr, e, hn⟩ := uP k3
  have hl : lookIn x (dictOf es k) = some (some v) := kk.get F.nd F.at_ hv
  with_reducible exact get_value R.top.k ⟨g, rfl, rfl, g'⟩ (plainGet_of k1).1 (findObj_own k2 e hn hl) hh q
theorem BK {x : Str} {cs : List (Nat × Nat)} (T : FldOk W.K x cs) {o : V} {Q : VQ} (h : atK cs Q o c.σ) (R : RelH W c) : ∀ {vo : Value} {b : Bool}, RepV c.G c.φ o vo → wpAny W.M A (getAttr vo x b) (Post [] W c (Val Q)) eS c.s := by
  induction o using V.casesOn with
  | un => exact h.elim
  | hd k =>
    intro vo b ro
    obtain ⟨mo, hm, h⟩ := bI h
    induction mo using MO.casesOn with
    | inst C vs =>
      obtain ⟨i, hi, h⟩ := bI h
      obtain ⟨v, hv, q⟩ := bI h
      refine ro.hd_ fun p hp => (R.objs hp hm).inst_ fun es n us g g' kk r _ => ?_
      obtain ⟨u, hu, ru⟩ := r.get hv
      exact yU R (T.at_ hi) g g' kk hu ru.handed (.mk (R.tick _) (.mk ru q))
    | _ => exact h.elim
  | d y =>
    induction y using D.casesOn with
    | inst C ds =>
      intro vo b ro
      obtain ⟨i, hi, h⟩ := bI h
      obtain ⟨v, hv, q⟩ := bI h
      refine ro.data.inst_ fun a dx n es us g g' kk r => ?_
      obtain ⟨u, hu, ru⟩ := r.get hv
      exact yU R (T.at_ hi) (R.fz _ _ g) (R.fz _ _ g') kk hu ru.handed (cj R ru q)
    | _ => exact h.elim
theorem Az {s : Shared} {a C dx : Addr} {es : List DictEntry} {k : Nat} {x : Str} {tk : Tok} {v : Value} {Q : Result → Shared → Prop} (X : W.K.In s.heap) (I : InstAt s.heap a (instObj C dx) C (some (dictOf es k))) (hk : rQ W.K C x = true)
    (hr : es.any (·.refKey) = false) (hz : es.length ≤ 900)
    (q : ∀ hs t, Q (.ok (.ret .none)) { s with heap := s.heap.update dx (Obj.putName x hs (.str x t) v), toks := s.toks + 1 }) :
    codeAny W.M A (.call (.builtin "object.__setattr__") ⟨[.ref a, .str x tk, v], []⟩) Q s := by
  obtain ⟨k1, k4⟩ := aD .. |>.mp hk
  obtain ⟨k1, k3⟩ := aD .. |>.mp k1
  obtain ⟨k1, k2⟩ := aD .. |>.mp k1
  refine osa_open X I k2 (beq_iff_eq.mp k3) fun b => ?_
  obtain ⟨cd, hc, hd'⟩ := uP k4
  have hD : s.heap.get? dx = some (dictOf es k) := I.dict
  refine wpAny_bind (wpAny_pure (wpAny_bind (wpAny_bind (wpAny_loadPart I.at_ (wpAny_bind ((looks_clsIn X hc).here ?_))))))
  rw [hd']
  refine wpAny_pure (a := some dx) (wpAny_bind (wpAny_pure (wpAny_bind ?_)))
  unfold nsSet
  refine wpAny_bind (wpAny_bind (wpAny_askSetting (wpAny_pure (wpAny_bind (wpAny_mkText (wpAny_bind (wpAny_loadPart hD ?_)))))))
  dsimp only
  have cc : (!es.toArray.any (·.key.isStr x) && es.toArray.any (·.refKey)) = false := by
    rw [show es.toArray.any (·.refKey) = es.any (·.refKey) from List.any_toArray .., hr, uU]
  rw [aRefKeyMayBeTheName_at, cc]
  refine wpAny_updatePart hD ?_
  have D' := fun hs t => Heap.get?_update_self (Obj.putName x hs (.str x t) v) hD (by rw [putName_dict]; rfl)
  refine wpAny_bind (wpAny_lookBehind (D' _ _) (by
    rw [putName_dict]
    refine pastItsLine_dict ?_
    rw [aX, sizeLine_eq]; exact ab (qH es) (ab (aj hz) (by decide))) ?_)
  exact wpAny_pure (q _ _)
theorem lay_len (C : Nat) : (xk C).length ≤ 4 := by unfold xk; rw [ah]; unfold layS; split <;> decide
theorem Keyed.fit {ns es vs} (k : Keyed ns es vs) : es.length ≤ ns.length := by
  induction k with
  | nil => exact aY _
  | cons _ ih => exact aj ih
theorem AB {x : Str} {cs : List (Nat × Nat)} (T : FldOk W.K x cs) {o y : V} {F : List MO → Prop} (h : stK cs o y c.σ F) (R : RelH W c) : ∀ {vo v : Value}, RepV c.G c.φ o vo → RepV c.G c.φ y v → wpAny W.M A (setAttr vo x v) (Post [] W c fun _ c' => F c'.σ) eS c.s := by
  induction o using V.casesOn with
  | hd k =>
    intro vo v ro ry
    obtain ⟨mo, hm, h⟩ := bI h
    induction mo using MO.casesOn with
    | inst C vs =>
      obtain ⟨i, hi, h⟩ := bI h
      obtain ⟨hl, q⟩ := kA h
      have hl := aP hl
      have T := T.at_ hi
      refine ro.hd_ fun p hp => (R.objs hp hm).inst_ fun es m us g g' kk r ne => ?_
      have I : InstAt c.s.heap p.1 (instObj C p.2) C (some (dictOf es m)) := ⟨g, rfl, rfl, g'⟩
      have k1 : findIn W.K (.ref C) "__setattr__" = some (some (.builtin "object.__setattr__")) := by
        have k := T.s
        simp only [rQ, aD, beq_iff_eq] at k; exact k.1.1.1
      have fin : ∀ hs t tk, Post [] W c (fun (_ : Unit) c' => F c'.σ) () { c.s with heap := c.s.heap.update p.2 (Obj.putName x hs (.str x t) v), toks := tk } := fun hs t tk => by
        have D' := Heap.get?_update_self (Obj.putName x hs (.str x t) v) g' (by rw [putName_dict]; rfl)
        rw [putName_dict] at D'
        have ot : ∀ b, b ≠ p.2 → (c.s.heap.update p.2 (Obj.putName x hs (.str x t) v)).get? b = c.s.heap.get? b := fun b n => Heap.get?_update_ne _ _ _ _ n
        refine .mk (R.upd (mo' := .inst C (zE i y vs)) (h := c.s.heap.update p.2 (Obj.putName x hs (.str x t) v)) hp hm (fun b => ⟨fun o => by cases o <;> constructor, fun o => by cases o <;> constructor⟩) (fun b o n e => (ot b fun q => n (q ▸ .flds)).trans e) (fun b o => ?_) (.inst ((ot _ ne).trans g) D' (kk.put T.nd T.at_ (r.length ▸ hl)) (r.put ry i) ne)) q
        cases o with
        | inst => rw [ot _ ne, g]; rfl
        | flds => rw [D']; rfl
      with_reducible refine set_plain R.top.k I k1 ?_
      exact Az (s := { c.s with toks := c.s.toks + 1 }) R.top.k I T.s kk.any (ab kk.fit (ab (lay_len C) (by decide))) fun hs t => fin hs t _
    | _ => exact h.elim
  | _ => exact h.elim
noncomputable abbrev mtM (ms : List (Nat × Nat)) (F : Addr → Prop) (mo : MO) : Prop := match mo with | .inst C _ => fB (ti C ms) F | _ => False
noncomputable abbrev mtK (ms : List (Nat × Nat)) (o : V) (σ : List MO) (F : Addr → Prop) : Prop := match o with
  | .hd k => ldK σ k (mtM ms F)
  | .d (.inst C _) => fB (ti C ms) F
  | _ => False
noncomputable def zm (K : Frag) (x : Str) (ms : List (Nat × Nat)) : Prop := ∀ C f, ti C ms = some f → (sM K C x f && !(xk C).contains x) = true
theorem wB (R : RelH W c) {a C dx k f : Nat} {x : Str} {es : List DictEntry} {vs : List Value} {pl : Sem Bool} {Q : Value × List Value → Shared → Prop} (F : (sM W.K C x f && !(xk C).contains x) = true) (g : c.s.heap.get? a = some (instObj C dx)) (g' : c.s.heap.get? dx = some (dictOf es k)) (kk : Keyed (xk C) es vs)
    (q : keepIn W.K (.ref f) = true → Q (.ref f, [.ref a]) c.s) : wpAny W.M A (getMethod (.ref a) x pl) Q eS c.s := by
  simp only [sM, aD, beq_iff_eq] at F
  obtain ⟨⟨⟨⟨k1, k2⟩, k3⟩, k4⟩, k5⟩ := F
  have hl := kk.none_ (x := x) fun m => by rw [ig.mpr m] at k5; cases k5
  have hs : shadowIn (some (dictOf es k)) x = some false := by show (getL x es).map _ = _; rw [hl]; rfl
  have k3' : typeIn W.K (.ref f) = some (.type "function") := beq_iff_eq.mp k3
  with_reducible exact method_fn R.top.k ⟨g, rfl, rfl, g'⟩ (plainGet_of k1).1 (plainGet_of k1).2 k2 k3' hs (q k4)
theorem mtK_ok {x : Str} {ms : List (Nat × Nat)} (T : zm W.K x ms) {o : V} {F : Addr → Prop} {pl : Sem Bool} {Q : Value × List Value → Shared → Prop} (h : mtK ms o c.σ F) (R : RelH W c) : ∀ {vo : Value}, RepV c.G c.φ o vo → (∀ f, keepIn W.K (.ref f) = true → F f → Q (.ref f, [vo]) c.s) → wpAny W.M A (getMethod vo x pl) Q eS c.s := by
  induction o using V.casesOn with
  | un => exact h.elim
  | hd k =>
    intro vo ro
    obtain ⟨mo, hm, h⟩ := bI h
    induction mo using MO.casesOn with
    | inst C vs =>
      obtain ⟨f, hf, h⟩ := bI h
      exact ro.hd_ fun p hp => (R.objs hp hm).inst_ fun es n us g g' kk r _ q => wB R (T C f hf) g g' kk fun k => q f k h
    | _ => exact h.elim
  | d y =>
    induction y using D.casesOn with
    | inst C ds =>
      intro vo ro
      obtain ⟨f, hf, h⟩ := bI h
      exact ro.data.inst_ fun a dx n es us g g' kk r q => wB R (T C f hf) (R.fz _ _ g) (R.fz _ _ g') kk fun k => q f k h
    | _ => exact h.elim
end
structure Runs {α : Type} (M : Model) (A : Around) (m : Sem α) (s : Shared) (a : α) (s' : Shared) : Prop where
  go : ∀ {Q : α → Shared → Prop} {E : Value → Shared → Prop}, Q a s' → wpAny M A m Q E s
section
variable {α β : Type} {M : Model} {A : Around} {E : Value → Shared → Prop} {s s' : Shared} {Q : β → Shared → Prop}
theorem Runs.bind {m : Sem α} {f : α → Sem β} {a : α} (r : Runs M A m s a s') (h : wpAny M A (f a) Q E s') : wpAny M A (m >>= f) Q E s := wpAny_bind (r.go h)
theorem Runs.pure {m : Sem α} {a : α} (e : m = Pure.pure a) : Runs M A m s a s := ⟨fun q => e ▸ wpAny_pure q⟩
theorem Runs.unit {m : Sem α} {a : α} (h : ∀ {Q : α → Shared → Prop} {E : Value → Shared → Prop}, Q a s' → wpAny M A m Q E s) : Runs M A m s a s' := ⟨h⟩
theorem wif {c : Prop} [Decidable c] {a b : Sem β} (h : c) (k : wpAny M A a Q E s) : wpAny M A (if c then a else b) Q E s := (if_pos h (t := a) (e := b)).symm ▸ k
theorem wif' {c : Prop} [Decidable c] {a b : Sem β} (h : ¬ c) (k : wpAny M A b Q E s) : wpAny M A (if c then a else b) Q E s := (if_neg h (t := a) (e := b)).symm ▸ k
end
namespace BM
theorem slot_find : Slot "bytes" "find" "bytes.find" :=
  .of (owner := "bytes") (n := "find") (by rw [typeLookup_type, builtinLookup_eq_fast]; kernel_rfl) (by decide +kernel) (by decide +kernel) (by decide +kernel)
    (by first | exact .inl (by decide +kernel) | exact .inr (by decide +kernel)) (by rw [isSubtype_type]; kernel_rfl)
theorem type_find : typeOf (.builtin "bytes.find") = pure (.type "method_descriptor") := by show builtinType _ = _; rw [builtinType_eq_fast]; kernel_rfl
theorem entry_find : entryFor table "bytes.find" = some Builtin.«bytes.find» := entryFor_of_tree (by kernel_rfl)
theorem args_find_2 (a b : Value) : argsOk "bytes.find" ⟨[a, b], []⟩ := by
  unfold argsOk; rw [signature?_of (id := "bytes.find") (n := ['d', 'n', 'i', 'f']) (o := ['s', 'e', 't', 'y', 'b']) (by kernel_rfl) FB.owner_bytes]; kernel_rfl
theorem args_find_3 (a b c : Value) : argsOk "bytes.find" ⟨[a, b, c], []⟩ := by
  unfold argsOk; rw [signature?_of (id := "bytes.find") (n := ['d', 'n', 'i', 'f']) (o := ['s', 'e', 't', 'y', 'b']) (by kernel_rfl) FB.owner_bytes]; kernel_rfl
theorem slot_join : Slot "bytes" "join" "bytes.join" :=
  .of (owner := "bytes") (n := "join") (by rw [typeLookup_type, builtinLookup_eq_fast]; kernel_rfl) (by decide +kernel) (by decide +kernel) (by decide +kernel)
    (by first | exact .inl (by decide +kernel) | exact .inr (by decide +kernel)) (by rw [isSubtype_type]; kernel_rfl)
theorem type_join : typeOf (.builtin "bytes.join") = pure (.type "method_descriptor") := by show builtinType _ = _; rw [builtinType_eq_fast]; kernel_rfl
theorem x6 : entryFor table "bytes.join" = some Builtin.«bytes.join» := entryFor_of_tree (by kernel_rfl)
theorem xc (a b : Value) : argsOk "bytes.join" ⟨[a, b], []⟩ := by
  unfold argsOk; rw [signature?_of (id := "bytes.join") (n := ['n', 'i', 'o', 'j']) (o := ['s', 'e', 't', 'y', 'b']) (by kernel_rfl) FB.owner_bytes]; kernel_rfl
noncomputable def endsW (b c : Array UInt8) : Bool := if (b.size : Int) < c.size then false else b.extract (b.size - c.size) b.size == c
theorem win0 (n : Nat) : Builtin.Bytes.window n none none = (0, (n : Int)) := Prod.ext rfl ((congrArg (min (n : Int)) (if_neg (bh.mpr (av n)))).trans (Int.min_self _))
theorem bufR {M : Model} {A : Around} {s : Shared} {id : String} {c : Array UInt8} {u : Tok} : Runs M A (Builtin.Bytes.buffer? id (.bytes c u)) s (some c) s := .pure KBy.buffer_eq
theorem gives_endswith (b c : Array UInt8) (t u : Tok) : Gives (Builtin.«bytes.endswith» ⟨[.bytes b t, .bytes c u], []⟩) (.val (.bool (endsW b c))) := by
  refine .of_wp fun M A E s Q hq => ?_
  refine Runs.bind (.pure rfl) (Runs.bind (.pure rfl) (Runs.bind (.pure rfl) (Runs.bind (.pure (m := Builtin.Bytes.payload _) rfl) ?_)))
  refine Runs.bind (.pure (a := false) (by kernel_rfl)) (wif' pT (Runs.bind bufR (wpAny_pure ⟨_, rfl, ?_⟩)))
  have e := congrArg (fun w : Int × Int => if w.2 - w.1 < c.size then false else b.extract (w.2.toNat - c.size) w.2.toNat == c) (win0 b.size)
  exact (congrArg (fun x => Q (.bool x) s) e).mpr hq
noncomputable def findW (b c : Array UInt8) (lo : Option Int) : Int :=
  match (if (Builtin.Bytes.window b.size lo none).2 - (Builtin.Bytes.window b.size lo none).1 < c.size then none else Builtin.Bytes.find? b c (Builtin.Bytes.window b.size lo none).1.toNat (Builtin.Bytes.window b.size lo none).2.toNat) with
  | some i => i
  | none => -1
theorem wL {M : Model} {A : Around} {E : Value → Shared → Prop} {s : Shared} {b c : Array UInt8} {lo : Option Int} {tag : String} {Q : Value → Shared → Prop} {x : Sem Fin} (hq : Q (.int (findW b c lo) s.toks) { s with toks := s.toks + 1 }) :
    wpAny M A (match (if (Builtin.Bytes.window b.size lo none).2 - (Builtin.Bytes.window b.size lo none).1 < c.size then none else some ((Builtin.Bytes.window b.size lo none).1.toNat, (Builtin.Bytes.window b.size lo none).2.toNat)).bind
        fun x => match x with | (lo, hi) => if false = true then Builtin.Bytes.rfind? b c lo hi else Builtin.Bytes.find? b c lo hi with
      | some i => retInt i
      | none => do
        rule tag
        if false = true then x else retInt (-1)) (fun fin s' => ∃ v, fin = Fin.done (Flow.ret v) ∧ Q v s') E s := by
  unfold findW at hq
  by_cases h : (Builtin.Bytes.window b.size lo none).2 - (Builtin.Bytes.window b.size lo none).1 < c.size
  · rw [if_pos h] at hq ⊢
    exact wpAny_bind (wpAny_rule (wpAny_bind (wpAny_mkInt (wpAny_pure ⟨_, rfl, hq⟩))))
  · rw [if_neg h] at hq ⊢
    simp only [qR, Am, if_false]
    cases e : Builtin.Bytes.find? b c (Builtin.Bytes.window b.size lo none).1.toNat (Builtin.Bytes.window b.size lo none).2.toNat with
    | none => rw [e] at hq; exact wpAny_bind (wpAny_rule (wpAny_bind (wpAny_mkInt (wpAny_pure ⟨_, rfl, hq⟩))))
    | some i => rw [e] at hq; exact wpAny_bind (wpAny_mkInt (wpAny_pure ⟨_, rfl, hq⟩))
theorem searchR {M : Model} {A : Around} {s : Shared} {k : Builtin.Bytes.Kind} {n : String} {b c : Array UInt8} {t u : Tok} : Runs M A (Builtin.Bytes.searchArgs k n ⟨[.bytes b t, .bytes c u], []⟩) s (b, c, if (Builtin.Bytes.window b.size none none).2 - (Builtin.Bytes.window b.size none none).1 < c.size then none else some ((Builtin.Bytes.window b.size none none).1.toNat, (Builtin.Bytes.window b.size none none).2.toNat)) s := ⟨fun q => by
  exact Runs.bind (.pure rfl) (Runs.bind (.pure rfl) (Runs.bind (.pure rfl) (Runs.bind bufR (Runs.bind (.pure rfl) (Runs.bind (.pure (m := Builtin.Bytes.payload _) rfl) (wpAny_pure q))))))⟩
theorem AF {M : Model} {A : Around} {s : Shared} {k : Builtin.Bytes.Kind} {n : String} {b c : Array UInt8} {t u v : Tok} {i : Int} : Runs M A (Builtin.Bytes.searchArgs k n ⟨[.bytes b t, .bytes c u, .int i v], []⟩) s (b, c, if (Builtin.Bytes.window b.size (some i) none).2 - (Builtin.Bytes.window b.size (some i) none).1 < c.size then none else some ((Builtin.Bytes.window b.size (some i) none).1.toNat, (Builtin.Bytes.window b.size (some i) none).2.toNat)) s := ⟨fun q => by
  refine Runs.bind (.pure rfl) (Runs.bind (.pure rfl) (Runs.bind (.pure rfl) (Runs.bind bufR (Runs.bind (.pure rfl) (Runs.bind (.pure (m := Builtin.Bytes.payload _) rfl) (wpAny_pure q))))))⟩
theorem gives_find2 (b c : Array UInt8) (t u : Tok) : Gives (Builtin.«bytes.find» ⟨[.bytes b t, .bytes c u], []⟩) (.int (findW b c none)) := .of_wp fun M A E s Q hq => Runs.bind searchR (wL hq)
theorem gives_find3 (b c : Array UInt8) (t u : Tok) (i : Int) (v : Tok) : Gives (Builtin.«bytes.find» ⟨[.bytes b t, .bytes c u, .int i v], []⟩) (.int (findW b c (some i))) := .of_wp fun M A E s Q hq => Runs.bind AF (wL hq)
theorem o0 {M : Model} {A : Around} {E : Value → Shared → Prop} {s : Shared} {Q : Unit → Shared → Prop} (h : Q () s) : ∀ (taken : List (Value × Option Value)) (keep : List Value), (∀ x ∈ taken, x.2 = none) → wpAny M A (Builtin.Bytes.joinLetGo taken keep) Q E s
  | [], keep, _ => by unfold Builtin.Bytes.joinLetGo; exact wpAny_pure h
  | (x, w) :: rest, keep, hn => by
    obtain rfl : w = none := hn (x, w) (.head _)
    unfold Builtin.Bytes.joinLetGo
    dsimp only
    exact wpAny_bind (wpAny_letGo (o0 h rest keep fun y m => hn y (.tail _ m)))
theorem take_ok {M : Model} {A : Around} {E : Value → Shared → Prop} {s : Shared} {id : String} {c : Array UInt8} {u : Tok} {Q : Option (Array UInt8 × Option Value) → Shared → Prop} (h : Q (some (c, none)) s) : wpAny M A (Builtin.Bytes.takeBufferQuiet? id (.bytes c u) 0) Q E s := by
  have e : Builtin.Bytes.takeBuffer? id (.bytes c u) 0 = pure (some (c, none)) := by
    unfold Builtin.Bytes.takeBuffer?
    rw [KBy.special_eq KBy.look_buffer, KBy.own_buffer]
    have b : ∀ f, Builtin.Bytes.buffer? id (.bytes c u) f = pure (some c) := fun f => by
      unfold Builtin.Bytes.buffer?
      rw [KBy.special_eq KBy.look_buffer, KBy.own_buffer, KBy.own_release]
      kernel_rfl
    simp only [b]
    kernel_rfl
  unfold Builtin.Bytes.takeBufferQuiet?
  rw [e]
  exact wpAny_bind (wpAny_pure (wpAny_pure h))
theorem su : ∀ (ls : List (List UInt8)) (k : Nat), uS (fun x1 (x2 : Array UInt8) => x1 + x2.size) k (ls.map cH) = k + ls.flatten.length
  | [], k => by simp
  | l :: r, k => by rw [cG, f0, su r]; simp; exact aH (.o (.a (.a .A .B) .C) (.a .A (.a .B .C))) rf [_,_,_] []
theorem wH (ls : List (List UInt8)) : Builtin.Bytes.joined #[] (ls.map cH) = ls.flatten.toArray := by
  unfold Builtin.Bytes.joined
  have : ∀ (l : List (List UInt8)) (k : Nat) (acc : List UInt8), uS (fun (out : Array UInt8) (x : Array UInt8 × Nat) => (if x.2 > 0 then out ++ (#[] : Array UInt8) else out) ++ x.1) acc.toArray ((l.map cH).zipIdx k) = (acc ++ l.flatten).toArray := by
    intro l
    induction l with
    | nil => intro k acc; simp
    | cons x r ih =>
      intro k acc
      rw [cG, List.zipIdx_cons, f0]
      have e : (if (x.toArray, k).2 > 0 then acc.toArray ++ (#[] : Array UInt8) else acc.toArray) ++ (x.toArray, k).1 = (acc ++ x).toArray := by
        split <;> simp
      rw [e, ih]; simp
  exact this ls 0 []
theorem one_val {ls : List (List UInt8)} {vs : List Value} {x : Value} (hv : All2 (fun l v => ∃ t, v = .bytes (l : List UInt8).toArray t) ls vs) (e : vs.toArray = #[x]) : ∃ t', x = .bytes ls.flatten.toArray t' := by
  cases congrArg xi e
  cases hv with
  | cons a b =>
    cases b
    exact a.imp fun t e => e.trans (by rw [b6, se, ar])
theorem seqR {M : Model} {A : Around} {s : Shared} {a : Addr} {xs : Array Value} {n : Nat} (g : s.heap.get? a = some (listOf xs n)) : Runs M A (seqItems? (.ref a)) s (some xs) s := ⟨fun q => wpAny_seqItems g rfl q⟩
theorem itemsR {M : Model} {A : Around} {s : Shared} {a : Addr} {xs : Array Value} {n : Nat} (g : s.heap.get? a = some (listOf xs n)) : Runs M A (Builtin.Bytes.joinItems (.ref a)) s (.ref a) s := ⟨fun q => by
  unfold Builtin.Bytes.joinItems
  exact wpAny_bind (wpAny_typeOf (T := "list") ⟨_, g, rfl⟩ (wif rfl (wpAny_pure q)))⟩
theorem xQ {α : Type} {M : Model} {A : Around} {E : Value → Shared → Prop} {s : Shared} {Q : α → Shared → Prop} {F : Value → Sem α} {H : Sem α} : ∀ {arr : Array Value}, (∀ x, arr = #[x] → wpAny M A (F x) Q E s) → ((∀ x, arr ≠ #[x]) → wpAny M A H Q E s) → wpAny M A (match arr with | #[x] => F x | _ => H) Q E s := @fun ⟨l⟩ h h' => by
  induction l using List.casesOn with
  | nil => exact h' fun x e => io _ _ (congrArg xi e).symm
  | cons x l =>
    induction l using List.casesOn with
    | nil => exact h x rfl
    | cons y r => exact h' fun x e => io _ _ (eY.inj (congrArg xi e)).2
noncomputable def Turn (M : Model) (A : Around) (E : Value → Shared → Prop) (vs : Array Value) (s : Shared) (f : Nat → Array (Array UInt8) × List (Value × Option Value) → Sem (ForInStep (Array (Array UInt8) × List (Value × Option Value)))) : Prop :=
  ∀ {i l t' parts taken} {R : ForInStep (Array (Array UInt8) × List (Value × Option Value)) → Shared → Prop}, vs.getD i .none = .bytes l t' → (∀ x ∈ taken, x.2 = none ∧ x.1.onHeap = false) → R (.yield (parts.push l, taken ++ [(vs.getD i .none, none)])) s → wpAny M A (f i (parts, taken)) R E s
theorem zP {M : Model} {A : Around} {E : Value → Shared → Prop} {s : Shared} {ls : List (List UInt8)} {vs : List Value} {R : Array (Array UInt8) × List (Value × Option Value) → Shared → Prop} {f : Nat → Array (Array UInt8) × List (Value × Option Value) → Sem (ForInStep (Array (Array UInt8) × List (Value × Option Value)))}
    (hv : All2 (fun l v => ∃ t, v = .bytes (l : List UInt8).toArray t) ls vs) (hf : Turn M A E vs.toArray s f) (hR : ∀ parts taken, parts.toList = ls.map cH → (∀ x ∈ taken, x.2 = none) → R (parts, taken) s) : wpAny M A (forIn [:vs.toArray.size] (#[], []) f) R E s := by
  rw [Std.Legacy.Range.forIn_eq_forIn_range']
  have go : ∀ (ls' : List (List UInt8)) (vs' : List Value), All2 (fun l v => ∃ t, v = .bytes (l : List UInt8).toArray t) ls' vs' → ∀ (lp : List (List UInt8)) (vp : List Value) (i : Nat) (taken : List (Value × Option Value)), vs = vp ++ vs' → vp.length = i → ls = lp ++ ls' → (∀ x ∈ taken, x.2 = none ∧ x.1.onHeap = false) → wpAny M A (forIn (zn i vs'.length) ((lp.map cH).toArray, taken) f) R E s := by
    intro ls' vs' h
    induction h with
    | nil => exact fun lp vp i taken e e1 e2 ht => wpAny_pure (hR _ _ (by rw [e2, ar]) fun x m => (ht x m).1)
    | @cons l v r r' hh _ ih =>
      exact fun lp vp i taken e e1 e2 ht => hh.elim fun t' ev => by
        rw [ao, List.range'_succ, List.forIn_cons]
        have hx : vs.toArray.getD i .none = .bytes l.toArray t' := by rw [e, ← e1, Array.getD_eq_getD_getElem?, mw, bp (au _), gT]; exact ev
        refine wpAny_bind (hf hx ht ?_)
        have := ih (lp ++ [l]) (vp ++ [v]) (i + 1) (taken ++ [(vs.toArray.getD i .none, none)]) (by rw [e, ag]; rfl) (by rw [ac, e1]; rfl) (by rw [e2, ag]; rfl) fun x m => (bk.mp m).elim (ht x) fun m => by cases am.mp m; exact ⟨rfl, by rw [hx]; rfl⟩
        rw [aB] at this
        rw [qS]
        exact this
  rw [show [:vs.toArray.size].size = vs.length from (Nat.div_one _).trans (yq _)]
  exact go ls vs hv [] [] 0 [] rfl rfl rfl fun _ m => absurd m bJ
theorem join_ok {prog : Program} {w : World} {A : Around} {E : Value → Shared → Prop} {s : Shared} {t : Tok} {a : Addr} {vs : List Value} {n : Nat} {ls : List (List UInt8)} {Q : Value → Shared → Prop} (g : s.heap.get? a = some (listOf vs.toArray n))
    (hv : All2 (fun l v => ∃ t, v = .bytes (l : List UInt8).toArray t) ls vs) (hz : ls.flatten.length ≤ 16777216) (h : ∀ t' k, Q (.bytes ls.flatten.toArray t') { s with toks := k }) :
    wpAny (model prog w) A (call (.builtin "bytes.join") [.bytes #[] t, .ref a]) Q E s := by
  refine wpAny_call (codeAny_call_builtin slot_join.plain x6 (slot_join.check _ _ _ _ _ _ _ _ (typeIs_bytes _ _ _) (xc _ _) ?_))
  refine Runs.bind (m := selfAndOne _ _) (.pure rfl) ?_
  refine wif rfl (Runs.bind (itemsR g) (Runs.bind (seqR g) (wif rfl (xQ (fun x e => ?_) fun _ => ?_))))
  · refine (one_val hv e).elim fun t' ex => ?_
    subst ex
    refine Runs.bind (.pure rfl) (wif rfl (Runs.bind (.unit wpAny_rule) (wpAny_pure (h t' _))))
  refine wpAny_bind (zP hv (fun {i l t' parts taken R} e ht r => ?_) fun parts taken hp ht => ?_)
  · refine Runs.bind (seqR g) (wif' (fun c => (List.any_eq_true.mp c).elim fun x m => si ((ht x m.1).2.symm.trans m.2)) ?_)
    exact Runs.bind (.unit fun q => wpAny_holding (e ▸ take_ok q)) (Runs.bind (seqR g) (wif' (fun c => si ((bne_self_eq_false _).symm.trans c)) (wpAny_pure r)))
  · have e1 : Array.foldl (fun x1 (x2 : Array UInt8) => x1 + x2.size) ((#[] : Array UInt8).size * (parts.size - 1)) parts = ls.flatten.length := by
      rw [← Array.foldl_toList, hp, su]; exact (congrArg (· + _) (Nat.zero_mul _)).trans (aS _)
    refine Runs.bind (.pure (m := Builtin.Bytes.payload _) (a := #[]) rfl) (wif' (fun c => si ((KBy.tooLong_not (ab (aW e1) hz)).symm.trans c)) ?_)
    rw [hp, wH]
    exact wpAny_bind (wpAny_mkBytes (Runs.bind (.unit fun q => wpAny_holding (wpAny_point q)) (Runs.bind (.unit fun q => o0 q _ _ ht) (wpAny_pure (h _ _)))) hz)
end BM
noncomputable def dk (a b : List UInt8) : Bool := Builtin.Bytes.order a b == .lt
section
variable {prog : Program} {w : World} {A : Around} {E : Value → Shared → Prop} {s : Shared}
theorem nk : Slot "bytes" "__lt__" "bytes.__lt__" :=
  .of (owner := "bytes") (n := "__lt__") (by rw [typeLookup_type, builtinLookup_eq_fast]; kernel_rfl) (by decide +kernel) (by decide +kernel) (by decide +kernel)
    (by first | exact .inl (by decide +kernel) | exact .inr (by decide +kernel)) (by rw [isSubtype_type]; kernel_rfl)
theorem td : entryFor table "bytes.__lt__" = some Builtin.«bytes.__lt__» := entryFor_of_tree (by kernel_rfl)
theorem ud (a b : Value) : argsOk "bytes.__lt__" ⟨[a, b], []⟩ := by
  unfold argsOk; rw [signature?_of (id := "bytes.__lt__") (n := ['_', '_', 't', 'l', '_', '_']) (o := ['s', 'e', 't', 'y', 'b']) (by kernel_rfl) FB.owner_bytes]; kernel_rfl
theorem sZ (b c : Array UInt8) (t u : Tok) : Gives (Builtin.«bytes.__lt__» ⟨[.bytes b t, .bytes c u], []⟩) (.val (.bool (dk b.toList c.toList))) := by
  refine .of_wp fun M A E s Q hq => ?_
  show wpAny M A (isInstance (.bytes c u) (.type "bytes") >>= fun r => _) _ E s
  refine wpAny_bind (wpAny_isInstance (typeIs_bytes s c u) F.sub_bytes_bytes ?_)
  exact wpAny_pure ⟨_, rfl, hq⟩
theorem vz {b c : Array UInt8} {t u : Tok} {Q : Bool → Shared → Prop} (h : Q (dk b.toList c.toList) s) : wpAny (model prog w) A (keyLt' oneType' (.bytes b t) (.bytes c u)) Q E s := by
  rw [keyLt'_oneType, oneLt'_eq]
  simp only [if_true]
  refine wpAny_bind (wpAny_cRoomFor_byValue rfl ?_)
  refine wpAny_bind (wpAny_callSpecialIfBound?_slot (typeIs_bytes s b t) nk (call_gives nk (typeIs_bytes s b t) td (ud _ _) (sZ b c t u) ?_))
  exact wpAny_truthy_bool h
theorem qM (M : Model) (h : Heap) (b : Array UInt8) {t : Tok} : Looks M h (typeOf (.bytes b t)) (.type "bytes") := Looks.of_pure rfl
theorem kas2 {cmp : Nat → Nat → (Bool → Shared → Prop) → Shared → Prop} {r : Bool} {Q : Array Nat → Shared → Prop} (hc : ∀ C : Bool → Shared → Prop, C r s → cmp 1 0 C s) (q : Q (if r then #[1, 0] else #[0, 1]) s) : (kas_sort 2).kasWp cmp Q s := by
  have e : kas_sort 2 = .ask 1 0 fun b => if b = true then .ret #[1, 0] else .ret #[0, 1] := by
    have h1 : kas_sort 2 = .ask 1 0 fun b => ((if b = true then KasT.ret 1 else KasT.ret 2).bind fun n => if (n == 2) = true then KasT.ret (n, #[0, 1]) else if n > 1 then .ask 0 (#[0, 1].getD (n - 1) 0) fun c => if c = true then KasT.ret (n, #[0, 1]) else kas_descPart n 2 (kas_rev #[0, 1] 0 n) else kas_descPart n 2 #[0, 1]).bind fun r => if r.1 < 2 then kas_bin (2 - max r.1 1) r.2 (max r.1 1) else .ret r.2 := rfl
    rw [h1]
    congr 1
    funext b
    induction b using Bool.casesOn
    · rfl
    · rfl
  rw [e]
  exact hc _ (by induction r using Bool.casesOn <;> exact q)
theorem sort2 {b c : List UInt8} {t u : Tok} {a : Addr} {n : Nat} {P : PySem.Fin → Shared → Prop} (ho : s.heap.get? a = some (seqObj "list" [.bytes b.toArray t, .bytes c.toArray u].toArray n))
    (q : ∀ h' tk c', (∀ x o, x ≠ a → s.heap.get? x = some o → h'.get? x = some o) → h'.get? a = some (seqObj "list" (if dk c b then [Value.bytes c.toArray u, .bytes b.toArray t] else [.bytes b.toArray t, .bytes c.toArray u]).toArray c') → P (.done (.ret .none)) { s with heap := h', toks := tk }) :
    wpAny (model prog w) A (Builtin.«list.sort» ⟨[.ref a], []⟩) P E s := by
  generalize hvs : [Value.bytes b.toArray t, .bytes c.toArray u] = vs at ho
  have hlen : vs.length = 2 := by rw [← hvs]; rfl
  have ha : a < s.heap.objs.size := Heap.lt_size ho
  have s1 := Heap.SameBut.update s.heap a (Obj.mapSeq fun _ => (#[] : Array Value))
  obtain ⟨e1, ho1⟩ : ∃ e1, (s.heap.update a (Obj.mapSeq fun _ => (#[] : Array Value))).get? a = some (seqObj "list" #[] e1) := ⟨_, get?_update_seq ho fun _ => #[]⟩
  rw [list_sort_plain]
  refine wpAny_bind (listItems_at ho rfl ?_)
  refine wpAny_bind (listUpdate_at ho rfl ?_ (by rw [aX, sizeLine_eq]; exact aH (.e .A (.n 2) (.p .A (.n 16777216))) rf [_] [] hlen) (aY _))
  refine wpAny_bind (seqEpoch_at ho1 rfl ?_)
  refine wpAny_bind (wpAny_newTuple ?_ (by show vs.length ≤ _; rw [sizeLine_eq]; exact aH (.e .A (.n 2) (.p .A (.n 16777216))) rf [_] [] hlen))
  refine wpAny_bind (wpAny_newList ?_ (aY _))
  refine wpAny_holding ?_
  show wpAny (model prog w) A _ P E { s with heap := ((s.heap.update a (Obj.mapSeq fun _ => (#[] : Array Value))).push (seqObj "tuple" vs.toArray 0)).push (seqObj "list" #[] 0) }
  dsimp only
  have hn2 : ¬ vs.toArray.size < 2 := by rw [aX]; exact a7.mpr (aH (.i (.n 2) .A (.p (.n 2) .A)) rf [_] [] hlen)
  rw [if_neg hn2, if_neg hn2]
  refine wpAny_bind (kas_kind (T := .type "bytes") (by exact aH (.i (.n 2) .A (.p (.n 2) .A)) rf [_] [] hlen) (fun v hv => ?_) (by decide) (by decide) ?_)
  · rw [← hvs] at hv
    simp only [bc, bJ, or_false] at hv
    rcases hv with rfl | rfl
    · exact qM _ _ _
    · exact qM _ _ _
  · have est : SortSt.mk' oneType' (vs.toArray.zip vs.toArray) #[] 7 none = kas_st oneType' (pairsOf vs) (cH (ij vs.length)) := by
      have e := kas_range (pairsOf vs)
      rw [pairsOf_size] at e
      show SortSt.mk' oneType' (pairsOf vs) #[] 7 none = SortSt.mk' oneType' ((cH (ij vs.length)).map (kas_item (pairsOf vs))) #[] 7 none
      rw [e]
    let s3 : Shared := { s with heap := ((s.heap.update a (Obj.mapSeq fun _ => (#[] : Array Value))).push (seqObj "tuple" vs.toArray 0)).push (seqObj "list" #[] 0) }
    have run := kas_runs (prog := prog) (w := w) (A := A) (κ := oneType') (it := pairsOf vs) (E := E) (s := s3) (n := 2) (Q := fun _ st' s' => s' = s3 ∧ failedOf st' = none ∧ arrOf st' = (if dk c b then #[1, 0] else #[0, 1] : Array Nat).map (kas_item (pairsOf vs)))
      (G := fun p s' => s' = s3 ∧ p = if dk c b then #[1, 0] else #[0, 1]) (by exact aH (.p (.n 2) (.n 2)) rf [] []) (by exact aH (.q (.n 2) (.n 64)) rf [] []) (fun p' st' s' a1 a2 a3 a4 => ⟨a4.1, a3, by rw [a2, a4.2]⟩)
      (kas2 (r := dk c b) (fun C hC => by
        unfold kas_cmp
        rw [kas_item_eq, kas_item_eq, ← hvs]
        exact vz (by simpa using hC)) ⟨rfl, rfl⟩)
    rw [← hlen, ← est] at run
    refine wpAny_bind (wpAny_mono run ?_ fun _ _ e => e)
    rintro ⟨⟨⟩, st'⟩ s' ⟨rfl, hf, har⟩
    dsimp only
    have na : s3.heap.get? a = some (seqObj "list" #[] e1) := Heap.get?_push_of_some _ (Heap.get?_push_of_some _ ho1)
    have hout : (arrOf st').map (·.2) = cH (if dk c b then [Value.bytes c.toArray u, .bytes b.toArray t] else [.bytes b.toArray t, .bytes c.toArray u]) := by
      rw [har, ← hvs]
      cases dk c b <;> simp [kas_item_eq]
    rw [hout]
    have s2 := Heap.SameBut.update s3.heap a (Obj.mapSeq fun _ => cH (if dk c b then [Value.bytes c.toArray u, .bytes b.toArray t] else [.bytes b.toArray t, .bytes c.toArray u]))
    obtain ⟨c2, hc2⟩ : ∃ c2, (s3.heap.update a (Obj.mapSeq fun _ => cH (if dk c b then [Value.bytes c.toArray u, .bytes b.toArray t] else [.bytes b.toArray t, .bytes c.toArray u]))).get? a = some (seqObj "list" (cH (if dk c b then [Value.bytes c.toArray u, .bytes b.toArray t] else [.bytes b.toArray t, .bytes c.toArray u])) c2) := ⟨_, get?_update_seq na fun _ => _⟩
    refine wpAny_bind (seqEpoch_at na rfl ?_)
    refine wpAny_bind (listUpdate_at na rfl ?_ (aY _) (by cases dk c b <;> simp [sizeLine_eq]))
    rw [hf]
    simp only [bne_self_eq_false, Am, if_false]
    refine wpAny_pure (q _ _ c2 (fun x o hx e => ?_) hc2)
    exact s2.extBut x o hx (Heap.get?_push_of_some _ (Heap.get?_push_of_some _ (s1.extBut x o hx e)))
theorem sorted2 {b c : List UInt8} {t u : Tok} {l : Addr} {n : Nat} {Q : Value → Shared → Prop} (g : s.heap.get? l = some (seqObj "list" [.bytes b.toArray t, .bytes c.toArray u].toArray n))
    (q : ∀ h' tk c', (∀ x o, s.heap.get? x = some o → h'.get? x = some o) → h'.get? (s.heap.objs.size + 1) = some (seqObj "list" (if dk c b then [Value.bytes c.toArray u, .bytes b.toArray t] else [.bytes b.toArray t, .bytes c.toArray u]).toArray c') → Q (.ref (s.heap.objs.size + 1)) { s with heap := h', toks := tk }) :
    wpAny (model prog w) A (call (.builtin "sorted") [.ref l]) Q E s := by
  have hl : s.heap.IsList l [.bytes b.toArray t, .bytes c.toArray u].toArray := ⟨_, g, rfl, _, rfl⟩
  refine Calls.call_function_entry kind_sorted plain_sorted entry_sorted (args_sorted1 _) ?_
  unfold Builtin.«sorted»
  refine wpAny_bind (m := checkCount "sorted" 1 1 _) (wpAny_pure ?_)
  refine wpAny_bind (collect_list hl ?_ (by rw [sizeLine_eq]; simp))
  refine wpAny_bind (wpAny_newList ?_ (by rw [sizeLine_eq]; simp))
  have hsz : ((s.heap.push (seqObj "list" #[] 0)).update s.heap.objs.size (Obj.mapSeq (· ++ [.bytes b.toArray t, .bytes c.toArray u].toArray))).objs.size = s.heap.objs.size + 1 := by
    rw [Heap.size_update, size_push']
  have hoL : (((s.heap.push (seqObj "list" #[] 0)).update s.heap.objs.size (Obj.mapSeq (· ++ [.bytes b.toArray t, .bytes c.toArray u].toArray))).push (seqObj "list" [.bytes b.toArray t, .bytes c.toArray u].toArray 0)).get? (s.heap.objs.size + 1) = some (seqObj "list" [.bytes b.toArray t, .bytes c.toArray u].toArray 0) := by
    rw [← hsz]; exact Heap.get?_push_size _ rfl
  have keep : ∀ x o, s.heap.get? x = some o → (((s.heap.push (seqObj "list" #[] 0)).update s.heap.objs.size (Obj.mapSeq (· ++ [.bytes b.toArray t, .bytes c.toArray u].toArray))).push (seqObj "list" [.bytes b.toArray t, .bytes c.toArray u].toArray 0)).get? x = some o := fun x o q => by
    have hlt : x < s.heap.objs.size := Heap.lt_size q
    rw [Heap.get?_push_ne _ _ _ (by rw [hsz]; exact cY (fo hlt)), Heap.get?_update_ne _ _ _ _ (cY hlt), Heap.get?_push_ne _ _ _ (cY hlt)]
    exact q
  show wpAny _ _ _ _ _ { s with heap := ((s.heap.push (seqObj "list" #[] 0)).update s.heap.objs.size (Obj.mapSeq (· ++ [.bytes b.toArray t, .bytes c.toArray u].toArray))).push (seqObj "list" [.bytes b.toArray t, .bytes c.toArray u].toArray 0) }
  rw [hsz]
  refine wpAny_bind (wpAny_holding (wpAny_call_entry slot_list_sort ⟨_, hoL, rfl⟩ entry_list_sort ?body (args_list_sort _)))
  case body =>
    refine sort2 (s := { s with heap := ((s.heap.push (seqObj "list" #[] 0)).update s.heap.objs.size (Obj.mapSeq (· ++ [.bytes b.toArray t, .bytes c.toArray u].toArray))).push (seqObj "list" [.bytes b.toArray t, .bytes c.toArray u].toArray 0) }) hoL fun h' tk c' k1 k2 => ?_
    refine ⟨_, rfl, wpAny_pure ⟨_, rfl, q h' tk c' (fun x o e => k1 x o (cY (fo (Heap.lt_size e))) (keep x o e)) k2⟩⟩
end
inductive B where
  | len | append | extend | pop | endswith | find | joinB | joinS | isinst | ord | abs | max | min | sorted | range | bytes | int | list | tuple
noncomputable def B.val : B → Value
  | .len => .builtin "len"
  | .append => .builtin "list.append"
  | .extend => .builtin "list.extend"
  | .pop => .builtin "list.pop"
  | .endswith => .builtin "bytes.endswith"
  | .find => .builtin "bytes.find"
  | .joinB => .builtin "bytes.join"
  | .joinS => .builtin "str.join"
  | .isinst => .builtin "isinstance"
  | .ord => .builtin "ord"
  | .abs => .builtin "abs"
  | .max => .builtin "max"
  | .min => .builtin "min"
  | .sorted => .builtin "sorted"
  | .range => .type "range"
  | .bytes => .type "bytes"
  | .int => .type "int"
  | .list => .type "list"
  | .tuple => .type "tuple"
inductive BiR (σ : List MO) : B → List V → V → List MO → Prop
  | lenB (b) : BiR σ .len [.d (.bytes b)] (.d (.int b.length)) σ
  | lenL {x l} (h : cu σ x = some l) : BiR σ .len [x] (.d (.int l.length)) σ
  | lenM {k m} {z : Nat} (h : σ[k]? = some (.bmap m z)) (hz : z ≤ 16777216) : BiR σ .len [.hd k] (.d (.int z)) σ
  | append {k l x} (h : σ[k]? = some (.list l)) (hz : l.length < 16777216) : BiR σ .append [.hd k, .d x] (.d .none) (σ.set k (.list (l ++ [x])))
  | extend {k l y m} (h : σ[k]? = some (.list l)) (h' : cu σ y = some m) (hz : l.length + m.length ≤ 16777216) : BiR σ .extend [.hd k, y] (.d .none) (σ.set k (.list (l ++ m)))
  | pop {k l y} (h : σ[k]? = some (.list (l ++ [y]))) : BiR σ .pop [.hd k] (.d y) (σ.set k (.list l))
  | pop0 {k l y} (h : σ[k]? = some (.list (y :: l))) : BiR σ .pop [.hd k, .d (.int 0)] (.d y) (σ.set k (.list l))
  | endswith (b c) : BiR σ .endswith [.d (.bytes b), .d (.bytes c)] (.d (.bool (BM.endsW b.toArray c.toArray))) σ
  | find2 (b c) : BiR σ .find [.d (.bytes b), .d (.bytes c)] (.d (.int (BM.findW b.toArray c.toArray none))) σ
  | find3 (b c i) : BiR σ .find [.d (.bytes b), .d (.bytes c), .d (.int i)] (.d (.int (BM.findW b.toArray c.toArray (some i)))) σ
  | joinB {y} {bs : List (List UInt8)} (h : cu σ y = some (bs.map .bytes)) (z : bs.flatten.length ≤ 16777216) : BiR σ .joinB [.d (.bytes []), y] (.d (.bytes bs.flatten)) σ
  | joinS {y} {bs : List String} (h : cu σ y = some (bs.map .str)) (z : (bs.map (·.length)).sum ≤ 16777216) : BiR σ .joinS [.d (.str ""), y] (.d (.str (String.join bs))) σ
  | isiB (b) : BiR σ .isinst [.d (.bytes b), .d (.tup [.ty "bytes", .ty "str"])] (.d (.bool true)) σ
  | isiS (b) : BiR σ .isinst [.d (.bytes b), .d (.ty "str")] (.d (.bool false)) σ
  | isiT (l) : BiR σ .isinst [.d (.tup l), .d (.ty "tuple")] (.d (.bool true)) σ
  | isiL (l) : BiR σ .isinst [.d (.lst l), .d (.ty "tuple")] (.d (.bool false)) σ
  | ord (ch) : BiR σ .ord [.d (.str (String.singleton ch))] (.d (.int ch.toNat)) σ
  | abs (i) : BiR σ .abs [.d (.int i)] (.d (.int i.natAbs)) σ
  | max (i j) : BiR σ .max [.d (.int i), .d (.int j)] (.d (.int (Max.max i j))) σ
  | min1 {y i} (h : cu σ y = some [.int i]) : BiR σ .min [y] (.d (.int i)) σ
  | min2 {y i j} (h : cu σ y = some [.int i, .int j]) : BiR σ .min [y] (.d (.int (Min.min i j))) σ
  | sorted {y a b} (h : cu σ y = some [.bytes a, .bytes b]) : BiR σ .sorted [y] (.d (.lst (if dk b a = true then [.bytes b, .bytes a] else [.bytes a, .bytes b]))) σ
  | range1 (b) : BiR σ .range [.d (.int b)] (.d (.rng 0 b 1)) σ
  | range2 (a b) : BiR σ .range [.d (.int a), .d (.int b)] (.d (.rng a b 1)) σ
  | range3 {a b k} (h : k ≠ 0) (h' : k.natAbs < 1073741824) : BiR σ .range [.d (.int a), .d (.int b), .d (.int k)] (.d (.rng a b k)) σ
  | bytesB (b) : BiR σ .bytes [.d (.bytes b)] (.d (.bytes b)) σ
  | bytesI {y} {ns : List Int} (h : cu σ y = some (ns.map .int)) (hr : ∀ n ∈ ns, 0 ≤ n ∧ n < 256) : BiR σ .bytes [y] (.d (.bytes (ns.map fun n => n.toNat.toUInt8))) σ
  | int (i) : BiR σ .int [.d (.int i)] (.d (.int i)) σ
  | list {y l} (h : cu σ y = some l) : BiR σ .list [y] (.hd σ.length) (σ ++ [.list l])
  | tuple (l) : BiR σ .tuple [.d (.tup l)] (.d (.tup l)) σ
section
variable {W : Wd} {A : Around} {n : Nat} {c : Cf} {s : Shared}
theorem Bd {G : Fz} {ns : List Int} : ∀ {vs : List Value}, All2 (Rep G) (ns.map .int) vs → IntsAre vs ns := by
  induction ns with
  | nil => exact fun r => r.un0 .nil
  | cons i ns ih => exact fun {vs} r => r.un (M := fun vs => IntsAre vs (i :: ns)) fun v vr a b => a.int_ (P := fun v => IntsAre (v :: vr) (i :: ns)) fun t => .cons _ _ (ih b)
theorem Ay {G : Fz} {bs : List String} : ∀ {vs : List Value}, All2 (Rep G) (bs.map .str) vs → StrsAre vs (bs.map aa) := by
  induction bs with
  | nil => exact fun r => r.un0 .nil
  | cons i ns ih => exact fun {vs} r => r.un (M := fun vs => StrsAre vs (aa i :: ns.map aa)) fun v vr a b => a.str_ (P := fun v => StrsAre (v :: vr) (aa i :: ns.map aa)) fun t => .cons _ t (ih b)
theorem tV {b : Array UInt8} {t : Tok} : Answers (fun s => s.TypeIs (.bytes b t) "bytes") (.bytes b t) (.type "str") false := fun _ _ _ _ _ _ s hs => by
  obtain ⟨h, g, d, t, os⟩ := s
  exact isinstance_nested_false_bytes (by decide +kernel) F.isi_meta_str F.sub_bytes_str (hs.2 (t + 1))
theorem A9 {b : Array UInt8} {t : Tok} {a : Addr} {n : Nat} {Q : Value → Shared → Prop} (g : s.heap.get? a = some (iv [.type "bytes", .type "str"] n)) (h : ∀ k, Q (.bool true) { s with toks := k }) :
    wpAny W.M A (call (.builtin "isinstance") [.bytes b t, .ref a]) Q eS s := by
  have ans : AnswersAll (fun s => s.TypeIs (.bytes b t) "bytes") (.bytes b t) [.type "bytes", .type "str"] [true, false] :=
    .cons (Answers.of_true F.isi_meta_bytes F.sub_bytes_bytes) (.cons tV .nil)
  exact IsiPair.tupleOf ans (typeIs_bytes _ _ _) g h
theorem isi_str {b : Array UInt8} {t : Tok} {Q : Value → Shared → Prop} (h : ∀ k, Q (.bool false) { s with toks := k }) : wpAny W.M A (call (.builtin "isinstance") [.bytes b t, .type "str"]) Q eS s := by
  refine call_isinstance_of ?_
  obtain ⟨hp, gg, d, tk, os⟩ := s
  exact isinstance_nested_false_bytes (by decide +kernel) F.isi_meta_str F.sub_bytes_str (h _)
theorem nw : ∀ (ls : List String) (a : String), aa (ls.foldl (· ++ ·) a) = ⟨(ls.map aa).foldl (fun acc p => acc ++ p.cps) (aa a).cps⟩
  | [], a => rfl
  | x :: r, a => by
    rw [f0, nw r, cG, f0, kJ]; rfl
theorem A6 (ls : List String) : Txt.join (aa "") (ls.map aa) = aa (String.join ls) := by
  have hg : (aa "").cps = #[] := by rw [bu]; rfl
  show Builtin.Str.glued _ _ = _
  unfold Builtin.Str.glued String.join
  rw [nw, hg]
  simp only [Array.append_empty]
  induction ls using List.casesOn with
  | nil => rfl
  | cons x r => simp
theorem yb {prog : Program} {w : World} {A : Around} {E : Value → Shared → Prop} {b : Array UInt8} {t : Tok} {Q : Value → Shared → Prop} (h : Q (.bytes b t) s) : wpAny (model prog w) A (call (.type "bytes") [.bytes b t]) Q E s := by
  refine callType_codes (Q₁ := fun obj s₁ => s₁.TypeIs obj "bytes" ∧ Q obj s₁) PySem.F.bm_called (PySem.F.bm_typeCall _) PySem.F.entry_object_init ?_ fun obj s₁ h₁ => ⟨h₁.1, PySem.F.args_object_init_2 obj _, object_init_meets PySem.F.bm_called.init.lookup PySem.F.bm_called.made (by decide) prog w A.in1 _ s₁ ⟨h₁.1, rfl, h₁.2⟩⟩
  refine codeAny_of_tree ?_
  show wpAny _ A.in1.in1 (do checkBuiltinCall "bytes.__new__" ⟨[.type "bytes", .bytes b t], []⟩; again (.builtin "bytes.__new__" ⟨[.type "bytes", .bytes b t], []⟩)) _ _ s
  refine wpAny_bind (wpAny_of_eq (PySem.F.bm_newCall _) (wpAny_pure ⟨plainId_quiet PySem.F.bm_plain _, codeAny_builtin PySem.F.bm_entry ?_⟩))
  rw [Around.under_plainId PySem.F.bm_plain _]
  unfold Builtin.«bytes.__new__»
  obtain ⟨hp, gg, d, tk, os⟩ := s
  repeat (first | with_reducible refine wpAny_bind ?_ | with_reducible refine nd_bind ?_ | with_reducible refine wpAny_holding ?_ | k_node)
  exact ⟨rfl, h⟩
@[elab_as_elim] theorem All2.one {α β : Type} {P : α → β → Prop} {M : List β → Prop} {a : α} {m : List β} (x : All2 P [a] m) (k : ∀ b, P a b → M [b]) : M m := x.un fun b _ p q => q.un0 (k b p)
@[elab_as_elim] theorem All2.two {α β : Type} {P : α → β → Prop} {M : List β → Prop} {a a' : α} {m : List β} (x : All2 P [a, a'] m) (k : ∀ b b', P a b → P a' b' → M [b, b']) : M m := x.un fun b _ p q => q.one (M := fun m => M (b :: m)) fun b' p' => k b b' p p'
@[elab_as_elim] theorem All2.three {α β : Type} {P : α → β → Prop} {M : List β → Prop} {a a' a'' : α} {m : List β} (x : All2 P [a, a', a''] m) (k : ∀ b b' b'', P a b → P a' b' → P a'' b'' → M [b, b', b'']) : M m := x.un fun b _ p q => q.two (M := fun m => M (b :: m)) fun b' b'' p' p'' => k b b' b'' p p' p''
theorem lt63' {k : Nat} (z : k ≤ 16777216) : (k : Int) < 2 ^ 63 := by exact aH (.l .A (.n 16777216) (.Q (.c .A) (.n 9223372036854775808))) rf [_] [] z
theorem qa (R : RelH W c) {Q : VQ} {a b k : Int} {t u w : Tok} {tk : Nat} (q : Q (.d (.rng a b k)) c.σ) : Post [] W c (Val Q) (.ref c.s.heap.objs.size) { c.s with heap := c.s.heap.push { cls := .type "range", data := .fields #[.int a t, .int b u, .int k w] }, toks := tk } :=
  sH R (b5 _) (Heap.get?_push_size _ rfl) (bC _ _) (fun _ _ e => .rng e) q
theorem A0 (R : RelH W c) {Q : VQ} {x : V} {v : Value} {l : List D} (h : cu c.σ x = some l) (r : RepV c.G c.φ x v) (q : Q (.d (.int l.length)) c.σ) : wpAny W.M A (call (.builtin "len") [v]) (Post [] W c (Val Q)) eS c.s := by
  refine R.list h r fun a vs n g z rs => ?_
  have e : vs.toArray.size = l.length := dO rs.length
  refine PySem.Calls.call_len_list (uz g) (e ▸ lt63' z) ?_
  rw [e]; exact cj R (.int _ _) q
theorem max_val (i j : Int) (t u : Tok) : (if j > i then Value.int j u else Value.int i t) = Value.int (max i j) (if j > i then u else t) := by
  by_cases h : j > i
  · rw [if_pos h, if_pos h, Int.max_eq_right (l9 h)]
  · rw [if_neg h, if_neg h, Int.max_eq_left (bh.mp h)]
theorem BiR.ok (hA : Ok n A) (R : RelH W c) {Q : VQ} {b : B} {xs : List V} {v : V} {σ' : List MO} (h : BiR c.σ b xs v σ') : ∀ vs : List Value, All2 (RepV c.G c.φ) xs vs → Q v σ' → wpAny W.M A (call b.val vs) (Post [] W c (Val Q)) eS c.s := by
  have hh := hA.handled
  induction h using BiR.casesOn with
  | lenB b => exact fun vs rs q => rs.one fun v r => r.bytes fun z t => len_bytes (by rw [aX]; exact ab z (by decide)) (by rw [aX]; exact cj R (.int _ _) q)
  | lenL h => exact fun vs rs q => rs.one fun v r => A0 R h r q
  | lenM h hz => exact fun vs rs q => rs.one fun v r => r.hd_ fun p hp => (R.objs hp h).bmap_ fun kvs hd hl _ => call_len_dict (R.ne_sys hp h .bmap) hd (hl ▸ lt63' hz) (hl ▸ cj R (.int _ _) q)
  | append h hz => exact fun vs rs q => rs.two fun v u r r' => Ab R h hz r r'.data q
  | extend h h' hz => exact fun vs rs q => rs.two fun v u r r' => zU R h h' hz r r' q
  | pop h => exact fun vs rs q => rs.one fun v r => pop_ok R h r q
  | pop0 h => exact fun vs rs q => rs.two fun v u r r' => r'.int fun t => pop0_ok R h r q
  | endswith b d => exact fun vs rs q => rs.two fun v u r r' => r.bytes fun _ t => r'.bytes fun _ t' => call_gives FB.slot_bytes_endswith (typeIs_bytes _ _ _) FB.entry_bytes_endswith (FB.args_bytes_endswith_2 _ _) (BM.gives_endswith _ _ _ _) (dw R (.d (.bool _)) q)
  | find2 b d => exact fun vs rs q => rs.two fun v u r r' => r.bytes fun _ t => r'.bytes fun _ t' => call_gives BM.slot_find (typeIs_bytes _ _ _) BM.entry_find (BM.args_find_2 _ _) (BM.gives_find2 _ _ _ _) (cj R (.int _ _) q)
  | find3 b d i => exact fun vs rs q => rs.three fun v u w r r' r'' => r.bytes fun _ t => r'.bytes fun _ t' => r''.int fun t'' => call_gives BM.slot_find (typeIs_bytes _ _ _) BM.entry_find (BM.args_find_3 _ _ _) (BM.gives_find3 _ _ _ _ _ _) (cj R (.int _ _) q)
  | joinB h z => exact fun vs rs q => rs.two fun v u r r' => r.bytes fun _ t => R.list h r' fun a vs n g _ rl => BM.join_ok g (rl.map.imp fun l v r => r.bytes_ fun _ t => ⟨t, rfl⟩) z fun t' k => cj R (.bytes _ z) q
  | @joinS y bs h z =>
    refine fun vs rs q => rs.two fun v u r r' => r.str fun t => R.list h r' fun a vs n g _ rl => PyProof.Rows.join_list (uz g) (Ay rl) ?_ fun t' k => ?_
    · rw [eH, ji]
      exact (show ((bs.map fun x => (aa x).length).sum + (bs.map aa).length * 0) ≤ 16777216 by simpa [eH] using z)
    · rw [A6]; exact cj R (.str _ _) q
  | isiB b =>
    exact fun vs rs q => rs.two fun v u r r' => r.bytes fun _ t => R.tup r' fun a vs n g _ rl => A9 (n := n) (by
      obtain rfl : vs = [.type "bytes", .type "str"] := rl.two fun _ _ a b => a.ty_ (b.ty_ rfl)
      exact g) fun k => cj R (.bool _) q
  | isiS b => exact fun vs rs q => rs.two fun v u r r' => r.bytes fun _ t => r'.data.ty_ (isi_str fun k => cj R (.bool _) q)
  | isiT l => exact fun vs rs q => rs.two fun v u r r' => R.tup r fun a vs n g _ _ => r'.data.ty_ (IsiPair.tuple_tuple g rfl (cj R (.bool _) q))
  | isiL l => exact fun vs rs q => rs.two fun v u r r' => R.lst r.data fun a vs n g _ _ => r'.data.ty_ (IsiPair.list_tuple g rfl (cj R (.bool _) q))
  | ord ch =>
    exact fun vs rs q => rs.one fun v r => r.str fun t => by
      rw [show aa (String.singleton ch) = ⟨#[ch.toNat]⟩ by rw [bu]; simp]
      exact PySem.P.ord_of_char (cj R (.int _ _) q)
  | abs i =>
    exact fun vs rs q => rs.one fun v r => r.int fun t => PyProof.Rows.call_abs_int fun u tk => by
      rw [show (if i < 0 then -i else i) = (i.natAbs : Int) by split; exact (Int.ofNat_natAbs_of_nonpos (l9 (by assumption))).symm; exact (Int.natAbs_of_nonneg (bh.mp (by assumption))).symm]
      exact cj R (.int _ _) q
  | max i j =>
    exact fun vs rs q => rs.two fun v u r r' => r.int fun t => r'.int fun t' => max_two_ints hh fun h' tk kp => by
      rw [max_val]
      exact mh R kp (.int _ _) q
  | @min1 y i h =>
    exact fun vs rs q => rs.one fun v r => R.list h r fun a vs n g _ rl => by
      obtain ⟨t, rfl⟩ : ∃ t, vs = [.int i t] := rl.one fun _ a => a.int_ fun t => ⟨t, rfl⟩
      refine min_intList (xs := #[(i, t)]) hh (by have := uz g; simpa [intItems] using this) (cK _) fun v h' tk hv kp => ?_
      obtain rfl : v = .int i t := by simpa [intItems, argBest] using hv.symm
      exact mh R kp (.int _ _) q
  | @min2 y i j h =>
    exact fun vs rs q => rs.one fun v r => R.list h r fun a vs n g _ rl => by
      obtain ⟨t, u, rfl⟩ : ∃ t u, vs = [.int i t, .int j u] := rl.two fun _ _ a b => a.int_ fun t => b.int_ fun u => ⟨t, u, rfl⟩
      refine min_intList (xs := #[(i, t), (j, u)]) hh (by have := uz g; simpa [intItems] using this) (cK _) fun v h' tk hv kp => ?_
      obtain rfl : v = .int (min i j) (if j < i then u else t) := by
        by_cases hji : j < i
        · simp [intItems, argBest, numAt, hji] at hv; rw [← hv, Int.min_eq_right (l9 hji), if_pos hji]
        · simp [intItems, argBest, numAt, hji] at hv; rw [← hv, Int.min_eq_left (bh.mp hji), if_neg hji]
      exact mh R kp (.int _ _) q
  | @sorted y a b h =>
    exact fun vs rs q => rs.one fun v r => R.list h r fun la vs n g _ rl => by
      obtain ⟨t, u, z1, z2, rfl⟩ : ∃ t u, a.length ≤ 16777216 ∧ b.length ≤ 16777216 ∧ vs = [.bytes a.toArray t, .bytes b.toArray u] := rl.two fun _ _ a b => a.bytes_ fun z t => b.bytes_ fun z' u => ⟨t, u, z, z', rfl⟩
      refine sorted2 g fun h' tk n' kp ho => ?_
      have e1 : c.s.heap.get? (c.s.heap.objs.size + 1) = none := by
        cases e : c.s.heap.get? (c.s.heap.objs.size + 1) with
        | none => rfl
        | some o => exact absurd (Heap.lt_size e) (a7.mpr (bO _))
      refine oT (n := n') R e1 ho kp ?_ ?_ q
      · cases dk b a <;> exact aP rfl
      · cases dk b a
        · exact .cons (.bytes t z1) (.cons (.bytes u z2) .nil)
        · exact .cons (.bytes u z2) (.cons (.bytes t z1) .nil)
  | range1 b => exact fun vs rs q => rs.one fun v r => r.int fun t => PySem.call_range_1 (qa R q)
  | range2 a b => exact fun vs rs q => rs.two fun v u r r' => r.int fun t => r'.int fun t' => PySem.call_range_2 (qa R q)
  | range3 h h' => exact fun vs rs q => rs.three fun v u w r r' r'' => r.int fun t => r'.int fun t' => r''.int fun t'' => PySem.call_range_3 h (qa R q) (.inl (PyProof.noPylong_small h'))
  | bytesB b => exact fun vs rs q => rs.one fun v r => r.bytes fun z t => yb (dw R (.d (.bytes _ z)) q)
  | bytesI h hr => exact fun vs rs q => rs.one fun v r => R.list h r fun a vs n g z rl => call_bytes_ints (uz g) (Bd rl) hr (by rw [rl.length, sv]; exact z) hh fun h' t k kp => mh R kp (.bytes _ (by rw [ah] at z ⊢; exact z)) q
  | int i => exact fun vs rs q => rs.one fun v r => r.int fun t => PySem.call_int_int (dw R (.d (.int _ _)) q)
  | list h => exact fun vs rs q => rs.one fun v r => R.list h r fun a vs n g z rl => call_list_seq (hsz := (by rw [dO rl.length, sv]; exact z)) a (.inl rfl) g rfl rfl fun h' n' kp ho => mj (k := c.s.toks) R (b5 _) ho kp z rl q
  | tuple l =>
    exact fun vs rs q => rs.one fun v r => (show ∀ v, RepV c.G c.φ (.d (.tup l)) v → wpAny W.M A (call (.type "tuple") [v]) (Post [] W c (Val Q)) eS c.s from fun v r => by
      have r' := r
      revert r'
      exact R.tup r fun a vs n g _ _ r' => PySem.call_tuple_same (isT g) (dw R r' q)) v r
end
noncomputable def Bb (sc : Scope) (x : Str) : Bool := sc.names.lookup x == some .local || sc.names.lookup x == some .cell
theorem qj {sc : Scope} {x : Str} (h : Bb sc x = true) : sc.names.lookup x = some .local ∨ sc.names.lookup x = some .cell := (me .. |>.mp h).imp beq_iff_eq.mp beq_iff_eq.mp
noncomputable def rC (sc : Scope) (xs : List Str) : Prop := xs.Nodup ∧ ∀ x ∈ xs, Bb sc x = true
section
variable {W : Wd} {sc : Scope} {n : Nat} {xs : List Str} {env : Env} {A : Around} {ρ : List V} {c : Cf}
theorem EnvOk.kindOf (hE : EnvOk sc env) (x : Str) : env.kindOf x = sc.names.lookup x := by unfold Env.kindOf; rw [hE.scope]
theorem EnvOk.fn (hE : EnvOk sc env) : env.scope.kind = .function := by rw [hE.scope]; exact hE.kind
theorem sW (hE : EnvOk sc env) {x : Str} {k : NameKind} (h : sc.names.lookup x = some k) : (x == ("__debug__" : Str)) = false := by
  rw [beq_eq_false_iff_ne]; rintro rfl; cases hE.nodebug.symm.trans h
theorem hc_of (hE : EnvOk sc env) {x : Str} {k : NameKind} (h : sc.names.lookup x = some k) : (x == ("__classdict__" : Str)) = false := by
  rw [beq_eq_false_iff_ne]; rintro rfl; cases hE.noclsdict.symm.trans h
theorem yR (hE : EnvOk sc env) (R : RelF W env xs ρ c) {i : Nat} {x : Str} {pos : Pos} (hx : xs[i]? = some x) (hu : iQ i ρ ≠ .un) {Q : Value → Shared → Prop} (q : ∀ v, RepV c.G c.φ (iQ i ρ) v → Q v c.s) : wpAny W.M A (loadName env x) Q eS c.s ∧ (x == ("__debug__" : Str)) = false := by
  obtain ⟨v, hv, r⟩ := R.vars i x hx hu
  rcases hv with ⟨hk, m, hn, hm⟩ | ⟨hk, k, hc, hv⟩
  · exact ⟨by with_reducible exact wpAny_loadName_local hE.fn hk hn hm (q v r), sW hE (hE.kindOf x ▸ hk)⟩
  · rcases hk with hk | hk
    · exact ⟨by with_reducible exact wpAny_loadName_cell hE.fn hk hc hv (q v r), sW hE (hE.kindOf x ▸ hk)⟩
    · have hcd := hc_of hE (hE.kindOf x ▸ hk)
      exact ⟨by with_reducible exact wpAny_loadName_free hE.fn hk hc hv (q v r) hcd, sW hE (hE.kindOf x ▸ hk)⟩
theorem l6 {h : Heap} {a : Addr} {m : Str → Option Value} (x : h.Ns a m) : (h.get? a).isSome := let ⟨o, es, ep, e, _⟩ := x; e ▸ rfl
theorem oF {h : Heap} {a : Addr} {v : Option Value} (x : h.IsCell a v) : (h.get? a).isSome := let ⟨o, e, _⟩ := x; e ▸ rfl
theorem same_ns {h : Heap} {a : Addr} {m m' : Str → Option Value} (x : h.Ns a m) (y : h.Ns a m') (z : Str) : m z = m' z := by
  obtain ⟨o, es, ep, e1, e2, _, e3⟩ := x
  obtain ⟨o', es', ep', e1', e2', _, e3'⟩ := y
  cases e1.symm.trans e1'; cases e2.symm.trans e2'
  rw [← e3, ← e3']
theorem lI (hE : EnvOk sc env) (VX : rC sc xs) (R : RelF W env xs ρ c) {i : Nat} {x : Str} (hx : xs[i]? = some x) {y : V} {v : Value} (r : RepV c.G c.φ y v) {Q : Unit → Shared → Prop} {E : Value → Shared → Prop}
    (q : ∀ c', Go (fa env) W c c' → RelF W env xs (kV i y ρ) c' → c'.G = c.G → c'.φ = c.φ → c'.σ = c.σ → Q () c'.s) : wpAny W.M A (storeName env x v) Q E c.s := by
  have ix : ∀ {j z}, xs[j]? = some z → j ≠ i → z ≠ x := fun hj n e => n ((List.getElem?_inj (kS hj) VX.1).mp (hj.trans (e ▸ hx.symm)))
  have mk : ∀ {a h'} k, a ∈ fa env → Heap.SameBut a c.s.heap h' → (h'.get? a).isSome → FrmOk env h' → VarAt env h' x v → (∀ z u, z ≠ x → VarAt env c.s.heap z u → VarAt env h' z u) → Q () { c.s with heap := h', toks := k } := fun {a h'} k ha hs al F V1 V2 => by
    have kp : ∀ b o, b ∉ [a] → c.s.heap.get? b = some o → h'.get? b = some o := fun b o nb e => hs.extBut b o (fun q => nb (q ▸ .head _)) e
    have hY : ∀ b ∈ [a], ¬ tJ c.φ c.σ b ∧ c.G b = none := fun b m => am.mp m ▸ ⟨(R.off _ ha).own, (R.off _ ha).ice⟩
    have g := R.H.goBut (k := k) [a] hY kp (fun b m => am.mp m ▸ al)
    have g' : Go (fa env) W c (c.to h' k) := g.wide (fun b m => am.mp m ▸ ha) fun b m => (R.off b m).own
    refine q _ g' ⟨g.H, F, fun b m => ⟨(R.off b m).own, (R.off b m).ice, ?_⟩, fun j z hz nz => ?_⟩ rfl rfl rfl
    · by_cases e : b = a
      · exact e ▸ al
      · obtain ⟨o, eo⟩ := aU.mp (R.off b m).alive
        exact kp b o (fun q => e (am.mp q)) eo ▸ rfl
    · rcases uC nz with ⟨rfl, e⟩ | ⟨n, e⟩
      · cases hx.symm.trans hz; rw [e]; exact ⟨v, V1, r⟩
      · rw [e] at nz ⊢
        obtain ⟨u, hu, ru⟩ := R.vars j z hz nz
        exact ⟨u, V2 z u (ix hz n) hu, ru⟩
  rcases qj (VX.2 x (cq hx)) with hl | hl
  · have hk' : env.kindOf x = some .local := (hE.kindOf x).trans hl
    obtain ⟨m, hn⟩ := R.frm.ns
    refine wpAny_storeName_local hk' hn (fun h' hn' hs => ?_) (by rw [hE.fn]; rfl)
    have hc : ∀ z c' v, env.cells.lookup z = some c' → c.s.heap.IsCell c' v → h'.IsCell c' v := fun z c' v e i => i.sameBut hs (hE.apart z c' e)
    refine mk _ (.head _) hs (l6 hn') ⟨⟨_, hn'⟩, fun z c' e => let ⟨v, i⟩ := R.frm.cell z c' e; ⟨v, hc z c' v e i⟩⟩ (.inl ⟨hk', _, hn', if_pos rfl⟩) fun z u n hu => ?_
    rcases hu with ⟨h1, m₁, hn₁, hm⟩ | ⟨h1, c', h2, h3⟩
    · exact .inl ⟨h1, _, hn', (if_neg n).trans ((same_ns hn hn₁ z).trans hm)⟩
    · exact .inr ⟨h1, c', h2, hc z c' _ h2 h3⟩
  · have hk' : env.kindOf x = some .cell := (hE.kindOf x).trans hl
    obtain ⟨k, hc⟩ := hE.celled x (.inl hl)
    obtain ⟨v₀, hv₀⟩ := R.frm.cell x k hc
    refine wpAny_storeName_cell hE.fn hk' hc hv₀ fun h' hn' hs => ?_
    have hne : env.locals ≠ k := fun e => hE.apart x k hc e.symm
    have oc : ∀ z c' v, z ≠ x → env.cells.lookup z = some c' → c.s.heap.IsCell c' v → h'.IsCell c' v := fun z c' v nz e i => i.sameBut hs fun q => nz (hE.inj z x c' e (q ▸ hc))
    refine mk _ (mq hc) hs (oF hn') ⟨let ⟨m, hm⟩ := R.frm.ns; ⟨m, hm.sameBut hs hne⟩, fun z c' e => ?_⟩ (.inr ⟨.inl hk', k, hc, hn'⟩) fun z u n hu => ?_
    · by_cases hz : z = x
      · subst hz; cases hc.symm.trans e; exact ⟨_, hn'⟩
      · obtain ⟨v, i⟩ := R.frm.cell z c' e; exact ⟨v, oc z c' v hz e i⟩
    · rcases hu with ⟨h1, m₁, hn₁, hm⟩ | ⟨h1, c', h2, h3⟩
      · exact .inl ⟨h1, m₁, hn₁.sameBut hs hne, hm⟩
      · exact .inr ⟨h1, c', h2, oc z c' _ n h2 h3⟩
@[reducible] noncomputable def jr : List Nat → List V → List V → List V
  | i :: is, y :: ys, ρ => jr is ys (kV i y ρ)
  | _, _, ρ => ρ
noncomputable def vV (W : Wd) (A : Around) (env : Env) (f : Value → Sem Unit) (x : Str) : Prop := ∀ v Q E s, wpAny W.M A (storeName env x v) Q E s → wpAny W.M A (f v) Q E s
noncomputable def l8 (xs : List Str) : List Nat → List Str → Prop := All2 fun i x => xs[i]? = some x
theorem zx (hE : EnvOk sc env) (VX : rC sc xs) {Q : Unit → Shared → Prop} {E : Value → Shared → Prop} {is : List Nat} {ns : List Str} (hn : l8 xs is ns) : ∀ {fs : List (Value → Sem Unit)} {ys : List V} {vs : List Value} {ρ : List V} {c : Cf}, All2 (vV W A env) fs ns → is.length = ys.length →
    RelF W env xs ρ c → All2 (RepV c.G c.φ) ys vs → (∀ c', Go (fa env) W c c' → RelF W env xs (jr is ys ρ) c' → c'.σ = c.σ → Q () c'.s) → wpAny W.M A (assignInOrder fs vs) Q E c.s := by
  induction hn with
  | nil =>
    intro fs ys vs ρ c a hl R r q
    cases a
    exact wpAny_pure (q c R.H.go (by induction ys using List.casesOn <;> exact R) rfl)
  | @cons i x is ns hx _ ih =>
    intro fs ys vs ρ c a hl R r q
    cases a with | cons a1 a2 =>
    induction r using All2.casesOn with
    | nil => cases hl
    | cons r1 r2 =>
    refine wpAny_bind (wpAny_holding (a1 _ _ _ _ ?_))
    refine lI hE VX R hx r1 fun c₁ g₁ R₁ eG eφ eσ => ?_
    exact ih a2 (fI.inj hl) R₁ (eG ▸ eφ ▸ r2) fun c₂ g₂ R₂ e₂ => q c₂ (g₁.trans g₂) R₂ (e₂.trans eσ)
theorem oO : ∀ {ns : List Str}, All2 (vV W A env) (ns.map fun n => bindName env n) ns
  | [] => .nil
  | x :: xs => .cons (fun v Q E s h => wpAny_bindName h) oO
noncomputable def AI (a b k : Int) : List D := (ij (Builtin.Range.rangeSize a b k).toNat).map fun (i : Nat) => D.int (a + (i : Int) * k)
noncomputable def jG : D → Option (List D)
  | .lst l => some l
  | .tup l => some l
  | .rng a b k => if Builtin.Range.small a b k = true then some (AI a b k) else none
  | .str x => some (x.toList.map fun ch => .str (String.singleton ch))
  | _ => none
structure Itr (W : Wd) (G : Fz) (ds : List D) (I : Addr) (St : Nat → Heap → Prop) : Prop where
  alive : ∀ i h, St i h → (h.get? I).isSome
  walks : ∀ A : Around, A.handled = none → ∃ fp P, Walks W.prog W.w A I fp [I] ds.length P St ∧ (∀ b ∈ fp, b = I ∨ (G b).isSome) ∧ ∀ i v d, P i v → ds[i]? = some d → Rep G d v
theorem oV (x : String) : (aa x).cps = (x.toList.map Char.toNat).toArray := by rw [bu]
theorem u9 (a b k : Int) : 0 ≤ Builtin.Range.rangeSize a b k := by
  unfold Builtin.Range.rangeSize
  split
  · split
    · exact gV (uj (by exact aH (.T .A .B (.P .O (.s (.s .B .A) .I))) rf [] [_,_] (by assumption)) (by exact aH (.T .O .A (.P .O .A)) rf [] [_] (by assumption))) (by decide)
    · exact cA 0
  · split
    · exact gV (uj (by exact aH (.T .A .B (.P .O (.s (.s .B .A) .I))) rf [] [_,_] (by assumption)) (by exact aH (.L .A .O (.P .O (.g .A))) rf [] [_] (bh.mp (by assumption)))) (by decide)
    · exact cA 0
theorem fO {α : Type} {a b x : α} (m : x ∈ [a, b]) : x = a ∨ x = b := (bc.mp m).imp id am.mp
theorem qd {α : Type} {l : List α} {i : Nat} {v : α} (h : l.toArray[i]? = some v) : l[i]? = some v := (mw ..).symm.trans h
theorem yS {d : D} {ds : List D} {Q : Value → Shared → Prop} {E : Value → Shared → Prop} (h : jG d = some ds) (R : RelH W c)
    (q : ∀ o St, Itr W c.G ds c.s.heap.objs.size St → St 0 (c.s.heap.push o) → Q (.ref c.s.heap.objs.size) { c.s with heap := c.s.heap.push o }) : ∀ {v : Value}, Rep c.G d v → wpAny W.M A (pyIter v) Q E c.s := by
  have ne : ∀ a o, c.G a = some o → a ≠ c.s.heap.objs.size := fun a o e => cY (Heap.lt_size (R.fz a o e))
  induction d using D.casesOn with
  | lst l =>
    cases h
    intro v r
    refine r.lst_ fun a vs k g z rl => ?_
    have hl := uz (R.fz _ _ g)
    refine wpAny_pyIter_list hl (q _ (fun i h => h.IsListIter c.s.heap.objs.size a i ∧ h.IsList a vs.toArray) ⟨fun i h x => (by obtain ⟨⟨o, e, _⟩, _⟩ := x; rw [e]; rfl), fun A' hA => ⟨_, _, by have := Walks.list (prog := W.prog) (w := W.w) hA _ a (ne _ _ g) vs.toArray; rwa [dO rl.length] at this, fun b m => ?_, fun i v d hp hd => rl.at_ hd (qd hp)⟩⟩ ⟨⟨_, Heap.get?_push_size _ rfl, rfl, rfl⟩, hl.push _⟩)
    exact (fO m).imp id fun e : b = a => e ▸ g ▸ rfl
  | tup l =>
    cases h
    intro v r
    refine r.tup_ fun a vs k g z rl => ?_
    have hl := isT (R.fz _ _ g)
    refine wpAny_pyIter_tuple hl (q _ (fun i h => h.IsTupleIter c.s.heap.objs.size a i ∧ h.IsTuple a vs.toArray) ⟨fun i h x => (by obtain ⟨⟨o, e, _⟩, _⟩ := x; rw [e]; rfl), fun A' hA => ⟨_, _, by have := Walks.tuple (prog := W.prog) (w := W.w) hA _ a (ne _ _ g) vs.toArray; rwa [dO rl.length] at this, fun b m => ?_, fun i v d hp hd => rl.at_ hd (qd hp)⟩⟩ ⟨⟨_, Heap.get?_push_size _ rfl, rfl, rfl⟩, hl.push _⟩)
    exact (fO m).imp id fun e : b = a => e ▸ g ▸ rfl
  | rng a b k =>
    obtain ⟨hs, h⟩ := Option.ite_none_right_eq_some.mp h; cases h
    intro v r
    refine r.rng_ fun x t u w g => ?_
    have hr : IsRange c.s.heap x a b k t u w := R.fz _ _ g
    have hz := u9 a b k
    have eN : (AI a b k).length = (Builtin.Range.rangeSize a b k).toNat := (ah ..).trans List.length_range
    refine wpAny_pyIter_range hr hs (q _ (fun i h => IsRangeIter h c.s.heap.objs.size (a + (i : Nat) * k) (((Builtin.Range.rangeSize a b k).toNat : Int) - (i : Nat)) k) ⟨fun i h x => (by have x : h.get? _ = some _ := x; rw [x]; rfl), fun A' hA => ⟨_, _, by rw [eN]; exact Walks.range hA c.s.heap.objs.size a k (Builtin.Range.rangeSize a b k).toNat, fun b m => .inl (am.mp m), fun i v d hp hd => ?_⟩⟩ ?_)
    · obtain ⟨t, rfl⟩ := hp
      obtain ⟨j, hj, rfl⟩ := bo.mp ((bR ..).symm.trans hd)
      obtain ⟨_, hj⟩ := aQ.mp hj
      rw [← hj, List.getElem_range]
      exact .int _ _
    · show Heap.get? _ _ = some _
      rw [Heap.get?_push_size _ rfl, aE hz, Int.natCast_zero, rK, ca, rN]
  | str x =>
    cases h
    intro v r
    refine r.str_ fun t => ?_
    have main : ∀ (T : String), (∀ A' : Around, A'.handled = none → Walks W.prog W.w A' c.s.heap.objs.size [c.s.heap.objs.size] [c.s.heap.objs.size] (aa x).cps.size (SignAt (aa x)) (fun i h => h.IsStrIter c.s.heap.objs.size T (aa x) t i)) →
        Q (.ref c.s.heap.objs.size) { c.s with heap := c.s.heap.push { cls := .type T, data := .fields #[.str (aa x) t, .int 0 0] } } := fun T hW => q _ (fun i h => h.IsStrIter c.s.heap.objs.size T (aa x) t i) ⟨fun i h x => (by obtain ⟨o, e, _⟩ := x; rw [e]; rfl), fun A' hA => ⟨_, _, by simpa [oV] using hW A' hA, fun b m => .inl (am.mp m), fun i v d hp hd => by
      obtain ⟨k, u, e, rfl⟩ := hp
      rw [oV] at e
      obtain ⟨ch, h1, rfl⟩ := bo.mp ((bR ..).symm.trans (qd e))
      obtain ⟨ch', h2, rfl⟩ := bo.mp ((bR ..).symm.trans hd)
      cases h1.symm.trans h2
      exact (show aa (String.singleton ch) = ⟨#[ch.toNat]⟩ by rw [bu]; simp) ▸ .str _ _⟩⟩ ⟨_, Heap.get?_push_size _ rfl, rfl, rfl⟩
    cases ha : (aa x).cps.all (· < 128)
    · exact wpAny_pyIter_wide ha (main _ fun A' hA => Walks.strWide hA _ _ t)
    · exact wpAny_pyIter_ascii ha (main _ fun A' hA => Walks.strAscii hA _ _ t)
  | _ => exact fun {v} => bm h
end
noncomputable abbrev frzF (k : Nat) (σ : List MO) (F : D → List MO → Prop) (mo : MO) : Prop := match mo with
  | .list l => F (.lst l) (σ.set k (.frz (.lst l)))
  | .frz x => F x σ
  | _ => False
noncomputable abbrev zR (v : V) (σ : List MO) (F : D → List MO → Prop) : Prop := match v with
  | .d x => F x σ
  | .hd k => ldK σ k (frzF k σ F)
  | .un => False
@[reducible] noncomputable def Bk : List V → List MO → (List D → List MO → Prop) → Prop
  | [], σ, F => F [] σ
  | v :: r, σ, F => zR v σ fun x σ' => Bk r σ' fun xs σ'' => F (x :: xs) σ''
noncomputable abbrev argF (k : Nat) (σ : List MO) (F : V → List MO → Prop) (mo : MO) : Prop := match mo with
  | .list l => F (.d (.lst l)) (σ.set k (.frz (.lst l)))
  | .frz x => F (.d x) σ
  | .hls _ => False
  | _ => F (.hd k) σ
noncomputable abbrev argK (v : V) (σ : List MO) (F : V → List MO → Prop) : Prop := match v with
  | .d x => F (.d x) σ
  | .hd k => ldK σ k (argF k σ F)
  | .un => False
@[reducible] noncomputable def BR : List V → List MO → LQ → Prop
  | [], σ, F => F [] σ
  | v :: r, σ, F => argK v σ fun x σ' => BR r σ' fun xs σ'' => F (x :: xs) σ''
section
variable {W : Wd} {A : Around} {n : Nat} {c : Cf}
theorem wE (R : RelH W c) {k : Nat} {p : Addr × Addr} {l : List D} (h1 : c.φ[k]? = some p) (h2 : c.σ[k]? = some (.list l)) : ∃ G', Rep G' (.lst l) (.ref p.1) ∧ Go [] W c ⟨G', c.φ, c.σ.set k (.frz (.lst l)), c.s⟩ := by
  refine (R.objs h1 h2).list_ fun vs m g z r => ?_
  have hG : Ak c.G fun a => if a = p.1 then c.s.heap.get? a else c.G a := fun a o e => by
    by_cases q : a = p.1
    · exact (if_pos q).trans (R.fz _ _ e)
    · exact (if_neg q).trans e
  have hx : Rep (fun a => if a = p.1 then c.s.heap.get? a else c.G a) (.lst l) (.ref p.1) := .lst ((if_pos rfl).trans g) z (r.imp fun _ _ => Rep.mono hG)
  refine ⟨_, hx, R.frz h1 h2 (fun a => ?_) hx⟩
  by_cases q : a = p.1
  · exact .inl ⟨q ▸ .list, if_pos q⟩
  · exact .inr ⟨fun o => q (by cases o; rfl), if_neg q⟩
theorem o8 (R : RelH W c) {F : D → List MO → Prop} {v : V} (h : zR v c.σ F) : ∀ {u : Value}, RepV c.G c.φ v u → ∃ G' σ' d, Go [] W c ⟨G', c.φ, σ', c.s⟩ ∧ Rep G' d u ∧ F d σ' := by
  induction v using V.casesOn with
  | un => exact h.elim
  | d x => exact fun {u} r => ⟨_, _, x, R.go, r.data, h⟩
  | hd k =>
    intro u r
    obtain ⟨mo, hm, h⟩ := bI h
    refine r.hd_ fun p hp => ?_
    induction mo using MO.casesOn with
    | list l => obtain ⟨G', r', g⟩ := wE R hp hm; exact ⟨_, _, _, g, r', h⟩
    | frz x => exact ⟨_, _, x, R.go, (R.objs hp hm).frz_, h⟩
    | _ => exact h.elim
theorem argK_ok (R : RelH W c) {F : V → List MO → Prop} {v : V} (h : argK v c.σ F) : ∀ {u : Value}, RepV c.G c.φ v u → ∃ G' σ' x, Go [] W c ⟨G', c.φ, σ', c.s⟩ ∧ RepV G' c.φ x u ∧ F x σ' := by
  induction v using V.casesOn with
  | un => exact h.elim
  | d x => exact fun {u} r => ⟨_, _, _, R.go, r, h⟩
  | hd k =>
    intro u r
    obtain ⟨mo, hm, h⟩ := bI h
    have r' := r
    revert r'
    refine r.hd_ fun p hp r' => ?_
    induction mo using MO.casesOn with
    | list l => obtain ⟨G', r', g⟩ := wE R hp hm; exact ⟨_, _, _, g, .d r', h⟩
    | frz x => exact ⟨_, _, _, R.go, .d (R.objs hp hm).frz_, h⟩
    | hls l => exact h.elim
    | _ => exact ⟨_, _, _, R.go, r', h⟩
theorem Bj {vs : List V} : ∀ {c : Cf} {F : List D → List MO → Prop} {us : List Value}, RelH W c → Bk vs c.σ F → All2 (RepV c.G c.φ) vs us → ∃ G' σ' ds, Go [] W c ⟨G', c.φ, σ', c.s⟩ ∧ All2 (Rep G') ds us ∧ F ds σ' := by
  induction vs with
  | nil => exact fun R h r => r.un0 ⟨_, _, _, R.go, .nil, h⟩
  | cons v vs ih =>
    intro c F us R h r
    refine r.un fun u us r1 r2 => ?_
    obtain ⟨G₁, σ₁, d, g, rd, h⟩ := o8 R h r1
    obtain ⟨G₂, σ₂, ds, g', rs, h⟩ := ih g.H h (r2.imp fun _ _ => RepV.mono g.g g.p)
    exact ⟨G₂, σ₂, _, g.trans g', .cons (rd.mono g'.g) rs, h⟩
theorem BP {vs : List V} : ∀ {c : Cf} {F : LQ} {us : List Value}, RelH W c → BR vs c.σ F → All2 (RepV c.G c.φ) vs us → ∃ G' σ' xs, Go [] W c ⟨G', c.φ, σ', c.s⟩ ∧ All2 (RepV G' c.φ) xs us ∧ F xs σ' := by
  induction vs with
  | nil => exact fun R h r => r.un0 ⟨_, _, _, R.go, .nil, h⟩
  | cons v vs ih =>
    intro c F us R h r
    refine r.un fun u us r1 r2 => ?_
    obtain ⟨G₁, σ₁, d, g, rd, h⟩ := argK_ok R h r1
    obtain ⟨G₂, σ₂, ds, g', rs, h⟩ := ih g.H h (r2.imp fun _ _ => RepV.mono g.g g.p)
    exact ⟨G₂, σ₂, _, g.trans g', .cons (rd.mono g'.g g'.p) rs, h⟩
theorem uG {I : Addr} {fp wr : List Addr} {N : Nat} {P : Nat → Value → Prop} {St : Nat → Heap → Prop} {E : Value → Shared → Prop} (Wk : Walks W.prog W.w A I fp wr N P St) : ∀ (m i : Nat) (s : Shared) (Q : List Value → Shared → Prop), i + m ≤ N → St i s.heap →
    (∀ vs h' tk, vs.length = m → (∀ j v, vs[j]? = some v → P (i + j) v) → St (i + m) h' → (∀ b o, b ∉ wr → s.heap.get? b = some o → h'.get? b = some o) → Q vs { s with heap := h', toks := tk }) → wpAny W.M A (draw (.ref I) m) Q E s
  | 0, i, s, Q, hi, st, q => wpAny_pure (q [] s.heap s.toks rfl (fun _ _ e => (nomatch e)) st fun _ _ _ e => e)
  | m + 1, i, s, Q, hi, st, q => by
    show wpAny _ _ (pyNext (.ref I) >>= _) Q E s
    refine wpAny_bind (Wk.item i s _ _ (ax (co (cK m)) hi) st fun v h₁ tk₁ hp st₁ k₁ => ?_)
    have e : i + 1 + m = i + (m + 1) := by rw [aZ, bq 1]
    refine wpAny_bind (wpAny_holding (uG Wk m (i + 1) _ _ (e ▸ hi) st₁ fun vs h₂ tk₂ hl hv st₂ k₂ => wpAny_pure ?_))
    refine q (v :: vs) h₂ tk₂ (congrArg (· + 1) hl) (fun j u hj => ?_) (e ▸ st₂) fun b o nb e => k₂ b o nb (k₁ b o nb e)
    induction j using Nat.casesOn with
    | zero => cases hj; exact hp
    | succ j => rw [show i + (j + 1) = i + 1 + j by rw [aZ, bq 1]]; exact hv j u hj
theorem lE {s : Shared} {v : Value} {T id : String} {vs : List Value} {St : Nat → Heap → Prop} {P : Nat → Value → Prop} {fp : List Addr} {o : Obj} {Q : List Value → Shared → Prop} {E : Value → Shared → Prop} (hT : s.TypeIs v T) (hl : typeLookup (.type T) "__iter__" = pure (some (.builtin id)))
    (hi : ∀ Q' : Value → Shared → Prop, Q' (.ref s.heap.objs.size) { s with heap := s.heap.push o } → wpAny W.M A (pyIter v) Q' E s)
    (Wk : Walks W.prog W.w A s.heap.objs.size fp [s.heap.objs.size] vs.length P St) (h0 : St 0 (s.heap.push o)) (hP : ∀ i v, P i v → vs[i]? = some v)
    (q : ∀ h' tk, (∀ b o, s.heap.get? b = some o → h'.get? b = some o) → Q vs { s with heap := h', toks := tk }) : wpAny W.M A (unpackItems v vs.length none) Q E s := by
  have hne : ∀ b o, s.heap.get? b = some o → b ∉ [s.heap.objs.size] := fun b o e m => cY (Heap.lt_size e) (am.mp m)
  unfold unpackItems
  refine wpAny_bind ?_
  unfold notIterableAtAll
  refine wpAny_bind (wpAny_specialOf hT hl ?_)
  refine wpAny_pure ?_
  rw [if_neg pT]
  refine wpAny_bind (wpAny_holding (hi _ ?_))
  refine wpAny_bind (wpAny_holding (uG Wk vs.length 0 _ _ (by rw [aS]; exact au _) h0 fun us h₁ tk₁ hl hv st₁ k₁ => ?_))
  obtain rfl : us = vs := sf hl fun i h1 h2 => by
    obtain ⟨_, e⟩ := aQ.mp (hP (0 + i) us[i] (hv i us[i] (aO h1)))
    rw [← e]; congr 1; exact aS i
  rw [if_neg (by rw [hl]; exact bA _)]
  refine wpAny_bind (wpAny_holding (Wk.done _ _ _ (aS us.length ▸ st₁) fun h₂ tk₂ k₂ => ?_))
  exact wpAny_pure (q h₂ tk₂ fun b o e => k₂ b o (hne b o e) (k₁ b o (hne b o e) (Heap.get?_push_of_some _ e)))
inductive UnpR (σ : List MO) : V → List D → Prop
  | tup (l) : UnpR σ (.d (.tup l)) l
  | it {v l} (h : cu σ v = some l) : UnpR σ v l
theorem UnpR.ok (hA : Ok n A) (R : RelH W c) {Q : List Value → Shared → Prop} {E : Value → Shared → Prop} {x : V} {l : List D} (h : UnpR c.σ x l) : ∀ v : Value, RepV c.G c.φ x v →
    (∀ vs h' tk, All2 (Rep c.G) l vs → (∀ b o, c.s.heap.get? b = some o → h'.get? b = some o) → Q vs { c.s with heap := h', toks := tk }) → wpAny W.M A (unpackItems v l.length none) Q E c.s := by
  induction h using UnpR.casesOn with
  | tup l =>
    intro v r q
    refine R.tup r fun a vs k g z rs => ?_
    have ht := isT g
    rw [← rs.length]
    exact lE (St := fun i h => h.IsTupleIter c.s.heap.objs.size a i ∧ h.IsTuple a vs.toArray) ht.typeIs F.slot_tuple_iter.lookup (fun Q' q' => wpAny_pyIter_tuple ht q') (by have := Walks.tuple (prog := W.prog) (w := W.w) hA.handled _ a (cY (Heap.lt_size g)) vs.toArray; rwa [aX] at this) ⟨⟨_, Heap.get?_push_size _ rfl, rfl, rfl⟩, ht.push _⟩ (fun i v => qd) fun h' tk k => q vs h' tk rs k
  | it h =>
    intro v r q
    refine R.list h r fun a vs k g z rs => ?_
    have ht := uz g
    rw [← rs.length]
    exact lE (St := fun i h => h.IsListIter c.s.heap.objs.size a i ∧ h.IsList a vs.toArray) ht.typeIs slot_list_iter.lookup (fun Q' q' => wpAny_pyIter_list ht q') (by have := Walks.list (prog := W.prog) (w := W.w) hA.handled _ a (cY (Heap.lt_size g)) vs.toArray; rwa [aX] at this) ⟨⟨_, Heap.get?_push_size _ rfl, rfl, rfl⟩, ht.push _⟩ (fun i v => qd) fun h' tk k => q vs h' tk rs k
noncomputable def Back (Q : Value → Shared → Prop) : Result → Shared → Prop
  | .ok (.ret v), s' => Q v s'
  | _, _ => False
structure Cd (W : Wd) (A : Around) (k : Code) (Q : Value → Shared → Prop) (s : Shared) : Prop where
  run : codeAny W.M A k (Back Q) s
theorem Cd.wp {s : Shared} {f : Value} {vs : List Value} {kw : List (Str × Value)} {Q : Value → Shared → Prop} (h : Cd W A (.call f ⟨vs, kw⟩) Q s) : wpAny W.M A (call f vs kw) Q eS s :=
  wpAny_call (codeAny_mono h.run fun r s' z => by rcases r with e | (v | _ | _ | _) <;> first | exact z | exact z.elim)
theorem Cd.mono {s : Shared} {k : Code} {Q Q' : Value → Shared → Prop} (h : Cd W A k Q s) (q : ∀ v s', Q v s' → Q' v s') : Cd W A k Q' s :=
  ⟨codeAny_mono h.run fun r s' z => by rcases r with e | (v | _ | _ | _) <;> first | exact q _ _ z | exact z⟩
structure CallP (W : Wd) (n : Nat) (f : Nat) (xs : List V) (σ : List MO) (Q : VQ) : Prop where
  run : ∀ {A c vs}, Ok n A → RelH W c → c.σ = σ → All2 (RepV c.G c.φ) xs vs → Cd W A (.call (.ref f) ⟨vs, []⟩) (Post [] W c (Val Q)) c.s
theorem CallP.mono {f : Nat} {xs : List V} {σ : List MO} {Q Q' : VQ} (h : CallP W n f xs σ Q) (k : ∀ v σ', Q v σ' → Q' v σ') : CallP W n f xs σ Q' :=
  ⟨fun a b e r => (h.run a b e r).mono fun v s' p => by induction p using Post.casesOn with | mk g r => induction r using Val.casesOn with | mk r q => exact .mk g (.mk r (k _ _ q))⟩
theorem zu (C : Addr) (vs : List Value) : (Code.builtin "type.__call__" ⟨.ref C :: vs, []⟩).weight = 1 := by kernel_rfl
theorem As (C : Addr) (vs : List Value) : (Code.builtin "type.__call__" ⟨.ref C :: vs, []⟩).cUnits = 1 := by kernel_rfl
theorem CallP.make {C f : Nat} {xs : List V} {σ : List MO} {Q : VQ} (hk : xR W.K C f = true) (hv : CallP W n f (.hd σ.length :: xs) (σ ++ [.inst C []]) fun v σ' => v = .d .none ∧ Q (.hd σ.length) σ') : CallP W (n + 1) C xs σ Q := by
  refine ⟨fun {A c vs} hA R eσ rs => ⟨?_⟩⟩
  subst eσ
  obtain ⟨G, φ, σ, hh, gs, d, t, os⟩ := c
  simp only [xR, aD, beq_iff_eq] at hk
  obtain ⟨⟨⟨k1, k2⟩, k3⟩, k4⟩ := hk
  refine make_core (makes_of R.top.k k1) (looks_findIn R.top.k k2) (fun self => bind_fn R.top.k self k3) (.inl rfl) ?_
  have kp : ∀ b o, hh.get? b = some o → ((hh.push emptyDict).push (instObj C hh.objs.size)).get? b = some o := fun b o e => Heap.get?_push_of_some _ (Heap.get?_push_of_some _ e)
  have e1 : ((hh.push emptyDict).push (instObj C hh.objs.size)).get? (hh.objs.size + 1) = some (instObj C hh.objs.size) := by heap_get
  have e2 : ((hh.push emptyDict).push (instObj C hh.objs.size)).get? hh.objs.size = some emptyDict := by heap_get
  have n1 : hh.get? (hh.objs.size + 1) = none := by
    cases e : hh.get? (hh.objs.size + 1) with
    | none => rfl
    | some o => exact absurd (Heap.lt_size e) (a7.mpr (bO _))
  have g := R.new (X := []) (p := (hh.objs.size + 1, hh.objs.size)) (mo := .inst C []) (k := t) kp (fun b o => by
    cases o with
    | inst => exact ⟨n1, e1 ▸ rfl⟩
    | flds => exact ⟨b5 _, e2 ▸ rfl⟩) (.inst e1 e2 .nil .nil (Nat.succ_ne_self _))
  have hA' : Ok n (A.under (.builtin "type.__call__" ⟨.ref C :: vs, []⟩)) := by
    refine ⟨hA.handled, ?_, ?_⟩
    · have := hA.depth; show A.depth + (Code.builtin "type.__call__" ⟨.ref C :: vs, []⟩).weight + _ ≤ _; rw [zu]; exact aH (.l (.a .A (.m 2 (.a .B .I))) (.n 980) (.p (.a (.a .A .I) (.m 2 .B)) (.n 980))) rf [_,_] [] this
    · have := hA.units; show A.units + (Code.builtin "type.__call__" ⟨.ref C :: vs, []⟩).cUnits + _ ≤ _; rw [As]; exact aH (.l (.a .A (.m 20 (.a .B .I))) (.n 9800) (.p (.a (.a .A .I) (.m 20 .B)) (.n 9800))) rf [_,_] [] this
  have hx : RepV G (φ ++ [(hh.objs.size + 1, hh.objs.size)]) (.hd σ.length) (.ref (hh.objs.size + 1)) := .hd (p := (hh.objs.size + 1, hh.objs.size)) (by rw [← R.len]; exact jP)
  refine codeAny_mono (hv.run hA' g.H rfl (.cons hx (rs.imp fun _ _ => RepV.mono (fun _ _ e => e) g.p))).run fun r s' z => ?_
  rcases r with e | (_ | _ | _ | v)
  · exact z.elim
  · exact z.elim
  · exact z.elim
  · exact z.elim
  · induction z using Post.casesOn with | mk g' z =>
    induction z using Val.casesOn with | mk rx z =>
    obtain ⟨rfl, q⟩ := z
    exact ⟨rx.data.none_ rfl, .mk (g.trans g') (.mk (hx.mono g'.g g'.p) q)⟩
end
set_option backward.match.sparseCases false
noncomputable abbrev CP := Nat → List V → List MO → VQ → Prop
noncomputable abbrev LX := List V → List MO → LQ → Prop
noncomputable abbrev OX := List V → List MO → (Option Int → List MO → Prop) → Prop
noncomputable def bad : EX := fun _ _ _ => False
noncomputable def tY : TX := fun _ _ _ => False
noncomputable abbrev eC (d : D) : EX := fun _ σ Q => Q (.d d) σ
noncomputable abbrev varK (v : V) (Q : VQ) (σ : List MO) : Prop := match v with | .un => False | .d x => Q (.d x) σ | .hd k => Q (.hd k) σ
noncomputable abbrev eV (i : Nat) : EX := fun ρ σ Q => varK (iQ i ρ) Q σ
noncomputable abbrev bin1 (op : Operator) (y : EX) (ρ : List V) (Q : VQ) (a : V) (σ : List MO) : Prop := y ρ σ (binK op Q a)
noncomputable abbrev aV (op : Operator) (x y : EX) : EX := fun ρ σ Q => x ρ σ (bin1 op y ρ Q)
noncomputable abbrev negK (Q : VQ) (v : V) (σ : List MO) : Prop := fB (em v) fun i => Q (.d (.int (-i))) σ
noncomputable abbrev vD (x : EX) : EX := fun ρ σ Q => x ρ σ (negK Q)
noncomputable abbrev cmp1 (op : CmpOp) (y : EX) (ρ : List V) (Q : BQ) (a : V) (σ : List MO) : Prop := y ρ σ (cmpK op Q a)
noncomputable abbrev bd (op : CmpOp) (x y : EX) : TX := fun ρ σ Q => x ρ σ (cmp1 op y ρ Q)
noncomputable abbrev boolK (Q : VQ) (b : Bool) (σ : List MO) : Prop := Q (.d (.bool b)) σ
noncomputable abbrev eT (t : TX) : EX := fun ρ σ Q => t ρ σ (boolK Q)
noncomputable abbrev eifK (x y : EX) (ρ : List V) (Q : VQ) (c : Bool) (σ : List MO) : Prop := tT c (x ρ σ Q) (y ρ σ Q)
noncomputable abbrev o9 (t : TX) (x y : EX) : EX := fun ρ σ Q => t ρ σ (eifK x y ρ Q)
noncomputable abbrev dh : TX := fun _ σ Q => Q true σ
noncomputable abbrev iw : TX := fun _ σ Q => Q false σ
noncomputable abbrev andK (t : TX) (ρ : List V) (Q : BQ) (c : Bool) (σ : List MO) : Prop := tT c (t ρ σ Q) (Q false σ)
noncomputable abbrev du (s t : TX) : TX := fun ρ σ Q => s ρ σ (andK t ρ Q)
noncomputable abbrev orK (t : TX) (ρ : List V) (Q : BQ) (c : Bool) (σ : List MO) : Prop := tT c (Q true σ) (t ρ σ Q)
noncomputable abbrev tL (s t : TX) : TX := fun ρ σ Q => s ρ σ (orK t ρ Q)
noncomputable abbrev notK (Q : BQ) (c : Bool) (σ : List MO) : Prop := Q (!c) σ
noncomputable abbrev xx (t : TX) : TX := fun ρ σ Q => t ρ σ (notK Q)
noncomputable abbrev truK (Q : BQ) (v : V) (σ : List MO) : Prop := match v with | .d (.bool b) => Q b σ | .d .none => Q false σ | _ => False
noncomputable abbrev tE (e : EX) : TX := fun ρ σ Q => e ρ σ (truK Q)
noncomputable abbrev ak : LX := fun _ σ Q => Q [] σ
noncomputable abbrev lcons2 (v : V) (Q : LQ) (vs : List V) (σ : List MO) : Prop := Q (v :: vs) σ
noncomputable abbrev lcons1 (r : LX) (ρ : List V) (Q : LQ) (v : V) (σ : List MO) : Prop := r ρ σ (lcons2 v Q)
noncomputable abbrev ae (x : EX) (r : LX) : LX := fun ρ σ Q => x ρ σ (lcons1 r ρ Q)
noncomputable def allD : List V → Option (List D)
  | [] => some []
  | .d x :: r => (allD r).map (x :: ·)
  | _ :: _ => none
noncomputable def allH : List V → Option (List Nat)
  | [] => some []
  | .hd k :: r => (allH r).map (k :: ·)
  | _ :: _ => none
inductive LstR (σ : List MO) (vs : List V) : V → List MO → Prop
  | d {ds} (h : allD vs = some ds) : LstR σ vs (.d (.lst ds)) σ
  | hd {ds} (h : allD vs = some ds) : LstR σ vs (.hd σ.length) (σ ++ [.list ds])
  | hls {ks} (h : allH vs = some ks) : LstR σ vs (.hd σ.length) (σ ++ [.hls ks])
noncomputable abbrev lstK (Q : VQ) (vs : List V) (σ : List MO) : Prop := u8 (LstR σ vs) Q
noncomputable abbrev bB (l : LX) : EX := fun ρ σ Q => l ρ σ (lstK Q)
noncomputable abbrev tupQ (Q : VQ) (ds : List D) (σ : List MO) : Prop := Q (.d (.tup ds)) σ
noncomputable abbrev tupK (Q : VQ) (vs : List V) (σ : List MO) : Prop := Bk vs σ (tupQ Q)
noncomputable abbrev eB (l : LX) : EX := fun ρ σ Q => l ρ σ (tupK Q)
inductive NewR (σ : List MO) : V → List MO → Prop
  | imap : NewR σ (.hd σ.length) (σ ++ [.imap (fun _ => none) 0])
  | bmap : NewR σ (.hd σ.length) (σ ++ [.bmap (fun _ => none) 0])
  | tmap : NewR σ (.hd σ.length) (σ ++ [.tmap (fun _ => none) 0])
noncomputable abbrev eNew : EX := fun _ σ Q => u8 (NewR σ) Q
noncomputable abbrev c9 (cs : List (Nat × Nat)) (x : EX) : EX := fun ρ σ Q => x ρ σ (atK cs Q)
noncomputable def idxK (Q : VQ) (a i : V) (σ : List MO) : Prop := ∃ y, IdxR σ a i y ∧ Q y σ
theorem aM {Q : VQ} {a i y : V} {σ : List MO} (h : IdxR σ a i y) (q : Q y σ) : idxK Q a i σ := ⟨y, h, q⟩
noncomputable abbrev idx1 (y : EX) (ρ : List V) (Q : VQ) (a : V) (σ : List MO) : Prop := y ρ σ (idxK Q a)
noncomputable abbrev bY (x y : EX) : EX := fun ρ σ Q => x ρ σ (idx1 y ρ Q)
noncomputable abbrev gz : OX := fun _ σ Q => Q none σ
noncomputable abbrev partK (Q : Option Int → List MO → Prop) (v : V) (σ : List MO) : Prop := fB (em v) fun i => Q (some i) σ
noncomputable abbrev bT (x : EX) : OX := fun ρ σ Q => x ρ σ (partK Q)
noncomputable def slc3 (Q : VQ) (a : V) (l u : Option Int) (σ : List MO) : Prop := ∃ v, SlcR σ l u a v ∧ Q v σ
theorem bH {Q : VQ} {a v : V} {l u : Option Int} {σ : List MO} (h : SlcR σ l u a v) (q : Q v σ) : slc3 Q a l u σ := ⟨v, h, q⟩
noncomputable abbrev slc2 (hi : OX) (ρ : List V) (Q : VQ) (a : V) (l : Option Int) (σ : List MO) : Prop := hi ρ σ (slc3 Q a l)
noncomputable abbrev slc1 (lo hi : OX) (ρ : List V) (Q : VQ) (a : V) (σ : List MO) : Prop := lo ρ σ (slc2 hi ρ Q a)
noncomputable abbrev ff (x : EX) (lo hi : OX) : EX := fun ρ σ Q => x ρ σ (slc1 lo hi ρ Q)
noncomputable abbrev Bz (cp : CP) (f : Nat) (Q : VQ) (vs : List V) (σ : List MO) : Prop := BR vs σ fun ws σ' => cp f ws σ' Q
noncomputable abbrev a8 (cp : CP) (f : Nat) (l : LX) : EX := fun ρ σ Q => l ρ σ (Bz cp f Q)
noncomputable abbrev biK (b : B) (Q : VQ) (vs : List V) (σ : List MO) : Prop := u8 (BiR σ b vs) Q
noncomputable abbrev gw (b : B) (l : LX) : EX := fun ρ σ Q => l ρ σ (biK b Q)
noncomputable abbrev mt3 (cp : CP) (f : Nat) (Q : VQ) (o : V) (vs : List V) (σ : List MO) : Prop := Bz cp f Q (o :: vs) σ
noncomputable abbrev mt2 (cp : CP) (l : LX) (ρ : List V) (Q : VQ) (o : V) (σ : List MO) (f : Nat) : Prop := l ρ σ (mt3 cp f Q o)
noncomputable abbrev mt1 (cp : CP) (ms : List (Nat × Nat)) (l : LX) (ρ : List V) (Q : VQ) (o : V) (σ : List MO) : Prop := mtK ms o σ (mt2 cp l ρ Q o σ)
noncomputable abbrev fg (cp : CP) (ms : List (Nat × Nat)) (x : EX) (l : LX) : EX := fun ρ σ Q => x ρ σ (mt1 cp ms l ρ Q)
noncomputable def bmOk (b : B) (σ : List MO) (o : V) : Bool := match b with
  | .append => (cu σ o).isSome
  | .extend => (cu σ o).isSome
  | .pop => (cu σ o).isSome
  | .find => (pO o).isSome
  | .endswith => (pO o).isSome
  | .joinB => (pO o).isSome
  | .joinS => (BN o).isSome
  | _ => false
noncomputable abbrev bm2 (b : B) (Q : VQ) (o : V) (vs : List V) (σ : List MO) : Prop := u8 (BiR σ b (o :: vs)) Q
noncomputable abbrev bm1 (b : B) (l : LX) (ρ : List V) (Q : VQ) (o : V) (σ : List MO) : Prop := chk (bmOk b σ o) (l ρ σ (bm2 b Q o))
noncomputable abbrev fC (b : B) (x : EX) (l : LX) : EX := fun ρ σ Q => x ρ σ (bm1 b l ρ Q)
noncomputable def jU : Expr → Bool | .Set .. => false | _ => true
noncomputable def lF : Expr → Bool | .Starred .. => false | _ => true
noncomputable def n6 : Expr → Bool | .Call .. => false | .Starred .. => false | _ => true
section
variable {W : Wd} {sc : Scope} {n : Nat} {xs : List Str} {env : Env} {A : Around} {ρ : List V} {c : Cf} {pos : Pos}
theorem iC {e : Expr} : SemX W sc xs n e bad := ⟨fun _ _ h => h.elim⟩
theorem r6 {e : Expr} : SemT W sc xs n e tY := ⟨fun _ _ h => h.elim⟩
theorem var_ok {x : Str} {i : Nat} (hx : xs[i]? = some x) : SemX W sc xs n (.Name x pos) (eV i) := ⟨fun {ρ Q env A c} F R h => by
  have h' : iQ i ρ ≠ .un ∧ Q (iQ i ρ) c.σ := by
    unfold eV varK at h
    split at h
    · exact h.elim
    · rename_i e; rw [e]; exact ⟨nofun, h⟩
    · rename_i e; rw [e]; exact ⟨nofun, h⟩
  obtain ⟨l, d⟩ := yR F.E R (pos := pos) hx h'.1 fun v r => dw (X := []) R.H r h'.2
  exact ⟨wpAny_Name l d⟩⟩
noncomputable def GlobD (W : Wd) (x : Str) (d : D) : Prop :=
  (∃ v, nsIn W.K mainGlobals x = some (some v) ∧ Rep (fun _ => none) d v) ∨ (∃ n, nsIn W.K mainGlobals x = some none ∧ bootBuiltins x = some (.type n) ∧ x ≠ "__name__" ∧ d = .ty n)
theorem glob_ok {x : Str} {d : D} (hx : sc.names.lookup x = some .globalImplicit) (h : GlobD W x d) : SemX W sc xs n (.Name x pos) (eC d) := ⟨fun {ρ Q env A c} F R q => by
  have T := R.H.top
  obtain ⟨mg, hg⟩ := T.g
  have hk : env.kindOf x = some .globalImplicit := (F.E.kindOf x).trans hx
  have hg' : c.s.heap.Ns env.globals mg := F.E.glob ▸ hg
  refine ⟨?_⟩
  rcases h with ⟨v, e, r⟩ | ⟨m, e, b, hn, rfl⟩
  · have hv := mg_of T.k hg e
    have p := dw (X := []) R.H (.d r.lift) q
    with_reducible exact PySem.Calls.Name_function_global F.E.fn hk (PySem.Calls.loadGlobal_global hg' hv p) (sW F.E hx)
  · have hv := mg_none_of T.k hg e
    obtain ⟨mb, hb, hbb⟩ := T.b
    have hb' : c.s.heap.Ns env.builtins mb := F.E.blt ▸ hb
    have p := dw (X := []) R.H (.d (.ty m)) q
    with_reducible exact PySem.Calls.Name_function_global F.E.fn hk (PySem.Calls.loadGlobal_builtin hg' hv hb' ((hbb x hn).trans b) p) (sW F.E hx)⟩
theorem none_ok {u : Nat} : SemX W sc xs n (.Constant .none u pos) (eC .none) := ⟨fun F R q => ⟨wpAny_Constant_none (dw R.H (.d .none) q)⟩⟩
theorem By {u : Nat} {b : Bool} : SemX W sc xs n (.Constant (.bool b) u pos) (eC (.bool b)) := ⟨fun F R q => ⟨wpAny_Constant_bool (dw R.H (.d (.bool b)) q)⟩⟩
theorem cint_ok {u : Nat} {i : Int} : SemX W sc xs n (.Constant (.int i) u pos) (eC (.int i)) := ⟨fun F R q => ⟨wpAny_Constant_int (cj R.H (.int i _) q)⟩⟩
theorem cstr_ok {u : Nat} {x : String} : SemX W sc xs n (.Constant (.str (aa x)) u pos) (eC (.str x)) := ⟨fun F R q => ⟨wpAny_Constant_str (cj R.H (.str x _) q)⟩⟩
theorem z5 {u : Nat} {b : List UInt8} (z : b.length ≤ 16777216) : SemX W sc xs n (.Constant (.bytes b) u pos) (eC (.bytes b)) := ⟨fun F R q => ⟨Constant_bytes (cj R.H (.bytes _ z) q)⟩⟩
theorem bin_ok {l r : Expr} {op : Operator} {x y : EX} (hl : SemX W sc xs n l x) (hr : SemX W sc xs n r y) : SemX W sc xs n (.BinOp l op r pos) (aV op x y) := ⟨fun F R h => ⟨wpAny_BinOp
  (hl.use F R h fun a c₁ x g₁ R₁ rx q => hr.use F R₁ q fun b c₂ y g₂ R₂ ry q => wpAny_mono (binK_ok R₂.H q (rx.mono g₂.g g₂.p) ry) (fun _ _ p => p.then (g₁.trans g₂)) fun _ _ z => z)⟩⟩
theorem neg_ok {e : Expr} {x : EX} (hx : SemX W sc xs n e x) : SemX W sc xs n (.UnaryOp .USub e pos) (vD x) := ⟨fun F R h => ⟨wpAny_UnaryOp
  (hx.use F R h fun a c₁ y g₁ R₁ ry q => by
    obtain ⟨i, e, q⟩ := bI q
    exact jH e ry fun t => PyProof.Rows.neg_int ((cj R₁.H (.int _ _) q).then g₁))⟩⟩
theorem Ar {op : CmpOp} {r : Expr} (h : jU r = true) : behindInMarks op r = false := by induction r using PySem.Expr.casesOn <;> first | rfl | cases h
theorem cmp_ok {l r : Expr} {op : CmpOp} {x y : EX} (hl : SemX W sc xs n l x) (hr : SemX W sc xs n r y) (hs : jU r = true) : SemX W sc xs n (.Compare l [op] [r] pos) (eT (bd op x y)) := ⟨fun F R h => ⟨wpAny_Compare1
  (hl.use F R h fun a c₁ x g₁ R₁ rx q => hr.use F R₁ q fun b c₂ y g₂ R₂ ry q => y5 F.A R₂.H q (rx.mono g₂.g g₂.p) ry fun r k q => (cj R₂.H (.bool r) q).then (g₁.trans g₂)) (Ar hs)⟩⟩
theorem tcmp_ok {l r : Expr} {op : CmpOp} {x y : EX} (hl : SemX W sc xs n l x) (hr : SemX W sc xs n r y) (hs : jU r = true) : SemT W sc xs n (.Compare l [op] [r] pos) (bd op x y) := ⟨fun F R h => ⟨wpAny_isTrue_Compare1
  (hl.use F R h fun a c₁ x g₁ R₁ rx q => hr.use F R₁ q fun b c₂ y g₂ R₂ ry q => y5 F.A R₂.H q (rx.mono g₂.g g₂.p) ry fun r k q => wpAny_truthy_bool (.mk ((g₁.trans g₂).trans (R₂.H.tick k)) q)) (Ar hs)⟩⟩
theorem SemX.then {e : Expr} {x : EX} {Q : VQ} {c₁ : Cf} (h : SemX W sc xs n e x) (F : Fr n sc env A) (R : RelF W env xs ρ c₁) (hx : x ρ c₁.σ Q) (g : Go [] W c c₁) : wpAny W.M A (eval e env) (Post [] W c (Val Q)) eS c₁.s := (h.run F R hx).then g
theorem if_ok {e a b : Expr} {t : TX} {x y : EX} (ht : SemT W sc xs n e t) (ha : SemX W sc xs n a x) (hb : SemX W sc xs n b y) : SemX W sc xs n (.IfExp e a b pos) (o9 t x y) := ⟨fun F R h => ⟨by
  rw [arm_eval_IfExp]
  refine wpAny_bind (ht.use F R h fun r c₁ g₁ R₁ q => ?_)
  induction r using Bool.casesOn with
  | true => exact ha.then F R₁ (zX q) g₁
  | false => exact hb.then F R₁ (zY q) g₁⟩⟩
theorem SemT.then {e : Expr} {x : TX} {Q : BQ} {c₁ : Cf} (h : SemT W sc xs n e x) (F : Fr n sc env A) (R : RelF W env xs ρ c₁) (hx : x ρ c₁.σ Q) (g : Go [] W c c₁) : wpAny W.M A (isTrue e env (eval e env)) (Post [] W c fun b c' => Q b c'.σ) eS c₁.s := (h.run F R hx).then g
theorem and0_ok : SemT W sc xs n (.BoolOp .And [] pos) dh := ⟨fun F R h => ⟨PyProof.Rows.isTrue_and_nil (.mk R.H.go h)⟩⟩
theorem or0_ok : SemT W sc xs n (.BoolOp .Or [] pos) iw := ⟨fun F R h => ⟨PyProof.Rows.isTrue_or_nil (.mk R.H.go h)⟩⟩
theorem and_ok {e : Expr} {r : List Expr} {s t : TX} (he : SemT W sc xs n e s) (hr : SemT W sc xs n (.BoolOp .And r ⟨0, 0, 0, 0⟩) t) : SemT W sc xs n (.BoolOp .And (e :: r) pos) (du s t) := ⟨fun F R h => ⟨PyProof.Rows.isTrue_and
  (he.use F R h fun b c₁ g₁ R₁ q => by
    induction b using Bool.casesOn with
    | true => exact hr.then F R₁ (zX q) g₁
    | false => exact .mk g₁ (zY q))⟩⟩
theorem or_ok {e : Expr} {r : List Expr} {s t : TX} (he : SemT W sc xs n e s) (hr : SemT W sc xs n (.BoolOp .Or r ⟨0, 0, 0, 0⟩) t) : SemT W sc xs n (.BoolOp .Or (e :: r) pos) (tL s t) := ⟨fun F R h => ⟨PyProof.Rows.isTrue_or
  (he.use F R h fun b c₁ g₁ R₁ q => by
    induction b using Bool.casesOn with
    | true => exact .mk g₁ (zX q)
    | false => exact hr.then F R₁ (zY q) g₁)⟩⟩
theorem not_ok {e : Expr} {t : TX} (he : SemT W sc xs n e t) : SemT W sc xs n (.UnaryOp .Not e pos) (xx t) := ⟨fun F R h => ⟨PyProof.Rows.isTrue_not (he.use F R h fun b c₁ g₁ _ q => .mk g₁ q)⟩⟩
theorem Au {Q : BQ} {v : V} {c₁ : Cf} (h : truK Q v c₁.σ) (g : Go [] W c c₁) {u : Value} (r : RepV c₁.G c₁.φ v u) : wpAny W.M A (truthy u) (Post [] W c fun b c' => Q b c'.σ) eS c₁.s := by
  induction v using V.casesOn with
  | d x =>
    induction x using D.casesOn with
    | bool b => exact r.data.bool_ (wpAny_truthy_bool (.mk g h))
    | none => exact r.data.none_ (PyProof.Rows.truthy_none (.mk g h))
    | _ => exact h.elim
  | _ => exact h.elim
theorem te_ok {e : Expr} {x : EX} (hx : SemX W sc xs n e x) (he : ∀ env whole, isTrue e env whole = (do let v ← whole; standAt e.pos; holding [v] (truthy v))) : SemT W sc xs n e (tE x) := ⟨fun F R h => ⟨PyProof.Rows.isTrue_plain
  (hx.use F R h fun v c₁ y g₁ R₁ ry q => Au q g₁ ry) (he _ _)⟩⟩
structure SemL (W : Wd) (sc : Scope) (xs : List Str) (n : Nat) (es : List Expr) (l : LX) : Prop where
  star : es.all lF = true
  nil : es = [] → ∀ ρ σ Q, l ρ σ Q → Q [] σ
  run : ∀ {ρ Q env A c}, Fr n sc env A → RelF W env xs ρ c → l ρ c.σ Q → ∀ pos, Wp W A (spliced (backTo pos (starEach es env))) (Post [] W c fun vs c' => vs.length = es.length ∧ ∃ ys, All2 (RepV c'.G c'.φ) ys vs ∧ Q ys c'.σ) c.s
theorem jB {e : Expr} {r : List Expr} {env : Env} (h : lF e = true) : starEach (e :: r) env = (false, eval e env) :: starEach r env := by induction e using PySem.Expr.casesOn <;> first | rfl | cases h
theorem lnil_ok : SemL W sc xs n [] ak := ⟨rfl, fun _ _ _ _ h => h, fun F R h pos => ⟨PySem.Calls.spliced_nil (.mk R.H.go ⟨rfl, [], .nil, h⟩)⟩⟩
theorem A1 {e : Expr} {es : List Expr} {x : EX} {l : LX} (he : lF e = true) (hx : SemX W sc xs n e x) (hl : SemL W sc xs n es l) : SemL W sc xs n (e :: es) (ae x l) := ⟨by rw [ki, he, hl.star]; rfl, nofun, fun F R h pos => by
  rw [jB he]
  refine ⟨PySem.Calls.spliced_cons (hx.use F R h fun v c₁ y g₁ R₁ ry q => ?_)⟩
  refine (hl.run F R₁ q pos).post fun vs c₂ g₂ z => ?_
  obtain ⟨hl, ys, rs, q⟩ := z
  exact .mk (g₁.trans g₂) ⟨congrArg (· + 1) hl, y :: ys, .cons (ry.mono g₂.g g₂.p) rs, q⟩⟩
theorem xd {vs : List V} : ∀ {ds : List D}, allD vs = some ds → ∀ us, All2 (RepV c.G c.φ) vs us → All2 (Rep c.G) ds us := by
  induction vs with
  | nil => intro ds h; cases h; exact fun us r => r.un0 .nil
  | cons v vs ih =>
    intro ds h
    induction v using V.casesOn with
    | d x =>
      obtain ⟨m, hm, rfl⟩ := bo.mp h
      exact fun us r => r.un fun u us a b => .cons a.data (ih hm us b)
    | _ => exact bm h
theorem BS {vs : List V} : ∀ {ks : List Nat}, allH vs = some ks → ∀ us, All2 (RepV c.G c.φ) vs us → All2 (fun k => RepV c.G c.φ (.hd k)) ks us := by
  induction vs with
  | nil => intro ds h; cases h; exact fun us r => r.un0 .nil
  | cons v vs ih =>
    intro ds h
    induction v using V.casesOn with
    | hd x =>
      obtain ⟨m, hm, rfl⟩ := bo.mp h
      exact fun us r => r.un fun u us a b => .cons a (ih hm us b)
    | _ => exact bm h
theorem LstR.ok (R : RelH W c) {Q : VQ} {vs : List V} {v : V} {σ' : List MO} (h : LstR c.σ vs v σ') : ∀ us, All2 (RepV c.G c.φ) vs us → us.length ≤ 16777216 → Q v σ' → Post [] W c (Val Q) (.ref c.s.heap.objs.size) { c.s with heap := c.s.heap.push { cls := .type "list", data := .seq us.toArray } } := by
  induction h using LstR.casesOn with
  | d h => exact fun us r z q => have r := xd h us r; oT (n := 0) R (b5 _) (Heap.get?_push_size _ rfl) (bC _ _) (r.length ▸ z) r q
  | hd h => exact fun us r z q => have r := xd h us r; mj (n := 0) R (b5 _) (Heap.get?_push_size _ rfl) (bC _ _) (r.length ▸ z) r q
  | hls h =>
    intro us r z q
    have r := BS h us r
    exact .mk (R.new (p := (c.s.heap.objs.size, c.s.heap.objs.size)) (bC _ _) (fun b o => by cases o; exact ⟨b5 _, by rw [Heap.get?_push_size _ rfl]; rfl⟩) (.hls (n := 0) (Heap.get?_push_size _ rfl) (r.length ▸ z) (r.imp fun _ _ => RepV.mono (fun _ _ e => e) fun _ _ e => l0 e))) (.mk (.hd (p := (c.s.heap.objs.size, c.s.heap.objs.size)) (by rw [← R.len]; exact jP)) q)
theorem SemL.use {es : List Expr} {l : LX} {Q : LQ} {Q' : List Value → Shared → Prop} (hl : SemL W sc xs n es l) (F : Fr n sc env A) (R : RelF W env xs ρ c) (h : l ρ c.σ Q) (k : ∀ vs c' ys, Go [] W c c' → RelF W env xs ρ c' → vs.length = es.length → All2 (RepV c'.G c'.φ) ys vs → Q ys c'.σ → Q' vs c'.s) : wpAny W.M A (spliced (backTo pos (starEach es env))) Q' eS c.s :=
  (hl.run F R h pos).post fun vs c' g z => by
    obtain ⟨e, ys, rs, q⟩ := z
    exact k vs c' ys g (R.go g) e rs q
theorem vx {k m : Nat} (e : k = m) (h : m ≤ 1000) : k ≤ 16777216 := e ▸ ab h (by decide)
theorem lst_ok {es : List Expr} {l : LX} (hl : SemL W sc xs n es l) (hz : es.length ≤ 1000) : SemX W sc xs n (.List es pos) (bB l) := ⟨fun {ρ Q env A c} F R h => ⟨by
  rw [arm_eval_List]
  refine wpAny_bind (wpAny_standAt (wpAny_bind (hl.use F R h fun vs c₁ ys g R₁ e rs q => ?_)))
  obtain ⟨v, σ', r, q⟩ := q
  have z := vx e hz
  exact wpAny_newList ((r.ok R₁.H vs rs z q).then g) z⟩⟩
theorem tup_ok {es : List Expr} {l : LX} {u : Nat} (hl : SemL W sc xs n es l) (hz : es.length ≤ 1000) : SemX W sc xs n (.Tuple es u pos) (eB l) := ⟨fun {ρ Q env A c} F R h => ⟨by
  rw [arm_eval_Tuple]
  refine wpAny_bind (wpAny_standAt (wpAny_bind (hl.use F R h fun vs c₁ ys g R₁ e rs q => ?_)))
  obtain ⟨G', σ', ds, g', rs, q⟩ := Bj R₁.H q rs
  have z := vx e hz
  refine wpAny_newTuple ?_ z
  exact (sH (X := []) (k := c₁.s.toks) g'.H (b5 _) (Heap.get?_push_size _ rfl) (bC _ _) (fun _ kG e => .tup (n := 0) e (rs.length ▸ z) (rs.imp fun _ _ => Rep.mono kG)) q).then (g.trans g')⟩⟩
theorem NewR.ok (R : RelH W c) {Q : VQ} {v : V} {σ' : List MO} (h : NewR c.σ v σ') (q : Q v σ') : Post [] W c (Val Q) (.ref c.s.heap.objs.size) { c.s with heap := c.s.heap.push { cls := .type "dict", data := .dict #[] } } := by
  have ho : (c.s.heap.push { cls := .type "dict", data := .dict #[] }).get? c.s.heap.objs.size = some { cls := .type "dict", data := .dict #[] } := Heap.get?_push_size _ rfl
  have hx : ∀ {mo}, RepV c.G (c.φ ++ [(c.s.heap.objs.size, c.s.heap.objs.size)]) (.hd c.σ.length) (.ref c.s.heap.objs.size) := fun {_ : MO} => .hd (p := (c.s.heap.objs.size, c.s.heap.objs.size)) (by rw [← R.len]; exact jP)
  have hn : b5 c.s.heap = b5 c.s.heap := rfl
  have own : ∀ {b : Addr}, b = c.s.heap.objs.size → c.s.heap.get? b = none ∧ ((c.s.heap.push { cls := .type "dict", data := .dict #[] }).get? b).isSome := fun e => e ▸ ⟨b5 _, ho ▸ rfl⟩
  induction h using NewR.casesOn with
  | imap => exact .mk (R.new (k := c.s.toks) (bC _ _) (fun b o => own (by cases o; rfl)) (.imap (p := (c.s.heap.objs.size, c.s.heap.objs.size)) (Heap.DictOf.new c.s.heap).mapOf (fun _ => .none) fun o es ep e d => by cases ho.symm.trans e; cases d; exact au 0)) (.mk (hx (mo := .hls [])) q)
  | bmap => exact .mk (R.new (k := c.s.toks) (bC _ _) (fun b o => own (by cases o; rfl)) (.bmap (p := (c.s.heap.objs.size, c.s.heap.objs.size)) (kvs := []) (Heap.DictOf.new c.s.heap) rfl fun _ => .none)) (.mk (hx (mo := .hls [])) q)
  | tmap => exact .mk (R.new (k := c.s.toks) (bC _ _) (fun b o => own (by cases o; rfl)) (.tmap (p := (c.s.heap.objs.size, c.s.heap.objs.size)) (xs := []) ho ⟨rfl, rfl, rfl⟩ rfl rfl (fun _ m => (bJ m).elim) nK (au 0) fun _ => .none)) (.mk (hx (mo := .hls [])) q)
theorem new_ok : SemX W sc xs n (.Dict [] [] pos) eNew := ⟨fun F R h => ⟨by
  obtain ⟨v, σ', r, q⟩ := h
  have p := r.ok R.H q
  with_reducible exact wpAny_Dict_empty p⟩⟩
theorem w6 {o : Expr} {a : Str} {env : Env} {t : Sem Value} (h : n6 o = true) : attributeBase o a env t = t := by induction o using PySem.Expr.casesOn <;> first | rfl | cases h
theorem at_ok {e : Expr} {a : Str} {x : EX} {cs : List (Nat × Nat)} (T : FldOk W.K a cs) (hx : SemX W sc xs n e x) (hp : n6 e = true) : SemX W sc xs n (.Attribute e a pos) (c9 cs x) := ⟨fun F R h => ⟨by
  refine PyProof.Rows.Attribute_any_ (hx.use F R h fun v c₁ y g R₁ ry q => ?_) (by rw [arm_eval_Attribute, w6 hp])
  exact wpAny_mono (BK T q R₁.H ry) (fun _ _ p => p.then g) fun _ _ z => z⟩⟩
structure BW (s : Shared) (v : Value) : Prop where
  run : ∃ T id, s.TypeIs v T ∧ typeLookup (.type T) "__getitem__" = pure (some (.builtin id))
theorem pV (R : RelH W c) {v : V} {l : List D} (h : cu c.σ v = some l) {u : Value} (r : RepV c.G c.φ v u) : BW c.s u := R.list h r fun a vs k g _ _ => ⟨_, _, ⟨_, g, rfl⟩, PySem.F.slot_list_getitem.lookup⟩
theorem IdxR.sub (R : RelH W c) {a i y : V} (h : IdxR c.σ a i y) : ∀ u, RepV c.G c.φ a u → BW c.s u := by
  induction h using IdxR.casesOn with
  | it h => exact fun u r => pV R h r
  | last h => exact fun u r => pV R h r
  | tup => exact fun u r => R.tup r fun a vs k g _ _ => ⟨_, _, ⟨_, g, rfl⟩, PySem.F.slot_tuple_getitem.lookup⟩
  | str => exact fun u r => r.str fun t => ⟨_, _, rfl, PySem.F.slot_str_getitem.lookup⟩
  | hls h => exact fun u r => r.hd_ fun p hp => by cases R.objs hp h with | hls g => exact ⟨_, _, ⟨_, g, rfl⟩, PySem.F.slot_list_getitem.lookup⟩
  | imap h => exact fun u r => r.hd_ fun p hp => (R.objs hp h).imap_ fun f hf _ _ => ⟨_, _, hf.typeIs, slot_dict_getitem.lookup⟩
  | bmap h => exact fun u r => r.hd_ fun p hp => (R.objs hp h).bmap_ fun f hf _ _ => ⟨_, _, hf.typeIs, slot_dict_getitem.lookup⟩
  | tmap h => exact fun u r => r.hd_ fun p hp => by cases R.objs hp h with | tmap g ex => exact ⟨_, _, ⟨_, g, ex.1⟩, slot_dict_getitem.lookup⟩
theorem SlcR.sub (R : RelH W c) {a v : V} {lo hi : Option Int} (h : SlcR c.σ lo hi a v) : ∀ u, RepV c.G c.φ a u → BW c.s u := by
  induction h using SlcR.casesOn with
  | bytes b => exact fun u r => r.bytes fun _ t => ⟨_, _, rfl, FB.slot_bytes_getitem.lookup⟩
  | lst h => exact fun u r => pV R h r
theorem sk {s : Shared} {value slice : Expr} {o i : Value} {Q : Value → Shared → Prop} (hT : BW s o) (h : wpAny W.M A (getItem o i) Q eS s)
    (hs : ∃ l, subscripted slice false o i = operate l (getItem o i)) :
    wpAny W.M A (getitemInPython o >>= fun b => subscripted slice b o i >>= fun r => letTemporaryGo value o r >>= fun _ => pure r) Q eS s := by
  obtain ⟨T, id, hT, hl⟩ := hT.run
  obtain ⟨l, hs⟩ := hs
  refine wpAny_bind ?_
  rw [getitemInPython_of_ne hT.not_modules]
  refine wpAny_bind (wpAny_specialOf hT hl (wpAny_pure (wpAny_bind ?_)))
  rw [hs]
  exact wpAny_operating (wpAny_mono h (fun r s₃ h₃ => wpAny_bind (wpAny_letTemporaryGo (wpAny_pure h₃))) fun _ _ x => x)
theorem idx_ok {e i : Expr} {x y : EX} (hx : SemX W sc xs n e x) (hi : SemX W sc xs n i y) (hs : ∀ o j, ∃ l, subscripted i false o j = operate l (getItem o j)) : SemX W sc xs n (.Subscript e i pos) (bY x y) := ⟨fun F R h => ⟨by
  rw [arm_eval_Subscript]
  refine wpAny_bind (hx.use F R h fun a c₁ x g₁ R₁ rx q => ?_)
  refine wpAny_bind (wpAny_holding (hi.use F R₁ q fun b c₂ y g₂ R₂ ry q => ?_))
  obtain ⟨v, r, q⟩ := q
  have rx := rx.mono g₂.g g₂.p
  refine wpAny_bind (wpAny_standAt ?_)
  exact sk (r.sub R₂.H _ rx) (wpAny_mono (r.ok F.A R₂.H _ _ rx ry q) (fun _ _ p => p.then (g₁.trans g₂)) fun _ _ z => z) (hs _ _)⟩⟩
structure BX (W : Wd) (sc : Scope) (xs : List Str) (n : Nat) (e : Option Expr) (x : OX) : Prop where
  run : ∀ {ρ Q env A c}, Fr n sc env A → RelF W env xs ρ c → x ρ c.σ Q → Wp W A (valueOrNone (evalOpt e env)) (Post [] W c fun v c' => ∃ o, IsPart v o ∧ Q o c'.σ) c.s
theorem AO : BX W sc xs n none gz := ⟨fun F R h => ⟨wpAny_pure (.mk R.H.go ⟨none, .none, h⟩)⟩⟩
theorem AN {e : Expr} {x : EX} (hx : SemX W sc xs n e x) : BX W sc xs n (some e) (bT x) := ⟨fun {ρ Q env A c} F R h => ⟨by
  show wpAny _ _ (eval e env) _ _ _
  refine hx.use F R h fun v c₁ y g R₁ ry q => ?_
  obtain ⟨i, e, q⟩ := bI q
  exact jH e ry fun t => .mk g ⟨some i, .int i t, q⟩⟩⟩
theorem slc_ok {e : Expr} {lo hi : Option Expr} {x : EX} {l u : OX} {p : Pos} (hx : SemX W sc xs n e x) (hl : BX W sc xs n lo l) (hu : BX W sc xs n hi u) : SemX W sc xs n (.Subscript e (.Slice lo hi none p) pos) (ff x l u) := ⟨fun F R h => ⟨by
  rw [arm_eval_Subscript]
  refine wpAny_bind (hx.use F R h fun a c₁ x g₁ R₁ rx q => ?_)
  refine wpAny_bind (wpAny_holding ?_)
  rw [arm_eval_Slice]
  refine wpAny_bind ((hl.run F R₁ q).post fun vl c₂ g₂ z => ?_)
  obtain ⟨ol, pl, q⟩ := z
  refine wpAny_bind (wpAny_holding ((hu.run F (R₁.go g₂) q).post fun vu c₃ g₃ z => ?_))
  obtain ⟨ou, pu, v, r, q⟩ := z
  have rx := (rx.mono g₂.g g₂.p).mono g₃.g g₃.p
  refine wpAny_bind (wpAny_holding (wpAny_pure ?_))
  refine wpAny_newObj_type ?_
  refine wpAny_bind (wpAny_standAt ?_)
  have g4 := g₃.H.more (X := []) (k := c₃.s.toks) (bC c₃.s.heap { cls := .type "slice", data := .fields #[vl, vu, .none] })
  have sb : BW _ a := (show SlcR (c₃.to (c₃.s.heap.push { cls := .type "slice", data := .fields #[vl, vu, .none] }) c₃.s.toks).σ ol ou _ v from r).sub g4.H a rx
  exact sk sb (wpAny_mono (r.ok g₃.H pl pu _ rx q _ rfl) (fun _ _ p => p.then (((g₁.trans g₂).trans g₃).trans g4)) fun _ _ z => z) ⟨_, rfl⟩⟩⟩
noncomputable def Keeps (W : Wd) (fv : Value) : Prop := (∃ i, fv = .builtin i) ∨ (∃ i, fv = .type i) ∨ keepIn W.K fv = true
theorem Keeps.of (R : RelH W c) {fv : Value} (h : Keeps W fv) : ∃ k, (k = Keeper.frame ∨ k = Keeper.machine ∨ k = Keeper.boundFrame) ∧ Looks W.M c.s.heap (keeperOf fv) k := by
  rcases h with ⟨i, rfl⟩ | ⟨i, rfl⟩ | h
  · exact ⟨.machine, .inr (.inl rfl), Looks.of_pure rfl⟩
  · exact ⟨.machine, .inr (.inl rfl), Looks.of_pure rfl⟩
  · exact keeps_K h _ R.top.k
theorem nZ {env : Env} : ∀ {es : List Expr}, es.all lF = true → (backTo pos (starEach es env)).any (·.1) = false
  | [], _ => rfl
  | e :: r, h => by
    obtain ⟨h1, h2⟩ := aD .. |>.mp h
    rw [jB h1]
    show (false || (backTo pos (starEach r env)).any (·.1)) = false
    rw [nZ h2]; rfl
theorem jy {es : List Expr} {l : LX} {fv : Value} {fs : List Value} {Q : LQ} {Q' : VQ} (hl : SemL W sc xs n es l) (hf : Keeps W fv) (F : Fr n sc env A) (R : RelF W env xs ρ c) (h : l ρ c.σ Q)
    (k : ∀ vs c' ys, Go [] W c c' → RelH W c' → All2 (RepV c'.G c'.φ) ys vs → Q ys c'.σ → wpAny W.M A (call fv (fs ++ vs)) (Post [] W c' (Val Q')) eS c'.s) :
    wpAny W.M A (callWith pos fv fs (backTo pos (starEach es env)) (backToKw pos (keywordEach [] env))) (Post [] W c (Val Q')) eS c.s := by
  have main : wpAny W.M A (spliced (backTo pos (starEach es env))) (fun vs s₁ => (∃ k, (k = Keeper.frame ∨ k = Keeper.machine ∨ k = Keeper.boundFrame) ∧ Looks W.M s₁.heap (keeperOf fv) k) ∧ wpAny W.M A (call fv (fs ++ vs)) (Post [] W c (Val Q')) eS s₁) eS c.s :=
    hl.use F R h fun vs c₁ ys g R₁ e rs q => ⟨hf.of R₁.H, wpAny_mono (k vs c₁ ys g R₁.H rs q) (fun _ _ p => p.then g) fun _ _ z => z⟩
  have pl : ((backTo pos (starEach es env)).any (·.1) || (backToKw pos (keywordEach [] env)).any (·.1.isNone)) = false := by rw [nZ hl.star]; rfl
  refine callWith_of (P := fun h => ∃ k, (k = Keeper.frame ∨ k = Keeper.machine ∨ k = Keeper.boundFrame) ∧ Looks W.M h (keeperOf fv) k) pl (fun _ h => h) ?_
  induction es using List.casesOn with
  | nil =>
    exact PyProof.Rows.evalArgs_nil3 ⟨hf.of R.H, k [] c [] R.H.go R.H .nil (hl.nil rfl _ _ _ h)⟩
  | cons e r =>
    rw [jB (aD .. |>.mp hl.star).1] at main ⊢
    exact PySem.Calls.evalArgs_plain main
end
set_option backward.match.sparseCases true
inductive Cal where
  | fn (a : Nat)
  | bi (b : B)
noncomputable def Cal.val : Cal → Value | .fn a => .ref a | .bi b => b.val
noncomputable def CalOk (W : Wd) (g : Str) (fv : Value) : Prop :=
  (nsIn W.K mainGlobals g = some (some fv) ∧ keepIn W.K fv = true) ∨ (nsIn W.K mainGlobals g = some none ∧ g ≠ "__name__" ∧ bootBuiltins g = some fv ∧ ((∃ i, fv = .builtin i) ∨ ∃ i, fv = .type i))
noncomputable def eCal (cp : CP) (k : Cal) (l : LX) : EX := match k with | .fn a => a8 cp a l | .bi b => gw b l
section
variable {W : Wd} {sc : Scope} {n : Nat} {xs : List Str} {env : Env} {A : Around} {ρ : List V} {c : Cf} {pos : Pos}
theorem CalOk.keeps {g : Str} {fv : Value} (h : CalOk W g fv) : Keeps W fv := h.elim (fun h => .inr (.inr h.2)) fun h => h.2.2.2.imp id .inl
theorem z6 {g : Str} {fv : Value} {p : Pos} {Q : Value → Shared → Prop} (hx : sc.names.lookup g = some .globalImplicit) (h : CalOk W g fv) (hE : EnvOk sc env) (R : RelH W c) (q : Q fv c.s) : wpAny W.M A (eval (.Name g p) env) Q eS c.s := by
  have T := R.top
  obtain ⟨mg, hg⟩ := T.g
  have hk : env.kindOf g = some .globalImplicit := (hE.kindOf g).trans hx
  have hg' : c.s.heap.Ns env.globals mg := hE.glob ▸ hg
  rcases h with ⟨e, _⟩ | ⟨e, hn, b, _⟩
  · have hv := mg_of T.k hg e
    with_reducible exact PySem.Calls.Name_function_global hE.fn hk (PySem.Calls.loadGlobal_global hg' hv q) (sW hE hx)
  · have hv := mg_none_of T.k hg e
    obtain ⟨mb, hb, hbb⟩ := T.b
    have hb' : c.s.heap.Ns env.builtins mb := hE.blt ▸ hb
    with_reducible exact PySem.Calls.Name_function_global hE.fn hk (PySem.Calls.loadGlobal_builtin hg' hv hb' ((hbb g hn).trans b) q) (sW hE hx)
theorem wP {f : Nat} {Q : VQ} {ys : List V} {vs : List Value} (hA : Ok n A) (R : RelH W c) (h : Bz (CallP W n) f Q ys c.σ) (r : All2 (RepV c.G c.φ) ys vs) : wpAny W.M A (call (.ref f) vs) (Post [] W c (Val Q)) eS c.s := by
  obtain ⟨G', σ', ws, g, r, p⟩ := BP R h r
  exact wpAny_mono (p.run hA g.H rfl r).wp (fun _ _ p => p.then g) fun _ _ z => z
theorem cal_ok {g : Str} {k : Cal} {es : List Expr} {l : LX} {p : Pos} (hx : sc.names.lookup g = some .globalImplicit) (h : CalOk W g k.val) (hl : SemL W sc xs n es l) : SemX W sc xs n (.Call (.Name g p) es [] pos) (eCal (CallP W n) k l) := ⟨fun {ρ Q env A c} F R q => ⟨by
  refine wpAny_Call_Name_kw ?_
  refine z6 hx h F.E R.H ?_
  induction k using Cal.casesOn with
  | fn a => exact jy (fs := []) hl h.keeps F R q fun vs c' ys g R' rs q => wP F.A R' q rs
  | bi b =>
    refine jy (fs := []) hl h.keeps F R q fun vs c' ys g R' rs q => ?_
    obtain ⟨v, σ', r, q⟩ := q
    exact r.ok F.A R' vs rs q⟩⟩
theorem qL {x : Expr} {m : Str} {ap : Pos} {args : List Expr} {Q : Value → Shared → Prop} (hp : n6 x = true) (hl : ap.endLine = pos.line) (hu : args.all lF = true) (hn : args.length < 30)
    (h : ∀ pl, wpAny W.M A (eval x env) (fun ov s₁ => wpAny W.M A (getMethod ov m pl) (fun fx s₂ => wpAny W.M A (callWith pos fx.1 fx.2 (backTo pos (starEach args env)) (backToKw pos (keywordEach [] env))) Q eS s₂) eS s₁) eS c.s) :
    wpAny W.M A (eval (.Call (.Attribute x m ap) args [] pos) env) Q eS c.s := by
  have few : methodCallForm (args.length + ([] : List Keyword).length) (backTo pos (starEach args env)) (backToKw pos (keywordEach [] env)) = true := by
    have e1 : (backTo pos (starEach args env)).all (fun x => !x.1) = true := by
      have := nZ (pos := pos) (env := env) hu
      rw [List.all_eq_not_any_not]; simpa using this
    unfold methodCallForm
    rw [e1]
    simp [backToKw, arm_keywordEach_nil]; exact aH (.t .A (.n 30) (.q .A (.n 30))) rf [_] [] hn
  rw [arm_eval_Call, w6 hp]
  refine wpAny_bind (wpAny_mono (h (do return (← importBound x env).getD true)) (fun ov s₁ h₁ => wpAny_bind (wpAny_standAt ?_)) fun _ _ x => x)
  unfold methodCall
  rw [few]
  refine wpAny_bind (wpAny_holding (wpAny_mono h₁ (fun fx s₂ h₂ => ?_) fun _ _ x => x))
  have hpos : methodCallPos true x env ap pos = pure pos := by unfold methodCallPos; simp [hl]
  exact wpAny_bind (wpAny_of_eq hpos h₂)
theorem meth_ok {e : Expr} {m : Str} {ms : List (Nat × Nat)} {es : List Expr} {x : EX} {l : LX} {ap : Pos} (T : zm W.K m ms) (hx : SemX W sc xs n e x) (hl : SemL W sc xs n es l) (hp : n6 e = true) (hline : ap.endLine = pos.line) (hn : es.length < 30) :
    SemX W sc xs n (.Call (.Attribute e m ap) es [] pos) (fg (CallP W n) ms x l) := ⟨fun {ρ Q env A c} F R q => ⟨by
  refine qL hp hline hl.star hn fun pl => ?_
  refine hx.use F R q fun v c₁ y g₁ R₁ ry q => ?_
  refine mtK_ok T q R₁.H ry fun f hk q => ?_
  refine wpAny_mono (jy (Q' := Q) (fs := [v]) hl (.inr (.inr hk)) F R₁ q fun vs c' ys g R' rs q => ?_) (fun _ _ p => p.then g₁) fun _ _ z => z
  exact wP F.A R' q (.cons (ry.mono g.g g.p) rs)⟩⟩
inductive BmAt : Str → B → Prop
  | append : BmAt (aa "append") .append
  | extend : BmAt (aa "extend") .extend
  | pop : BmAt (aa "pop") .pop
  | find : BmAt (aa "find") .find
  | endswith : BmAt (aa "endswith") .endswith
  | joinB : BmAt (aa "join") .joinB
  | joinS : BmAt (aa "join") .joinS
theorem qh (R : RelH W c) {y : V} {v : Value} {m : Str} {id : String} {pl : Sem Bool} {Q : Value × List Value → Shared → Prop} (h : (cu c.σ y).isSome = true) (r : RepV c.G c.φ y v) (hs : Slot "list" m id) (ht : typeOf (.builtin id) = pure (.type "method_descriptor")) (q : Q (.builtin id, [v]) c.s) : wpAny W.M A (getMethod v m pl) Q eS c.s := by
  obtain ⟨l, e⟩ := aU.mp h
  revert q
  exact R.list e r fun a vs k g _ _ q => getMethod_builtin ⟨_, g, rfl⟩ PySem.F.plainAttrs_list hs ht (fun b e => by cases e; exact ⟨_, g, rfl⟩) q
theorem om {y : V} {v : Value} {m : Str} {id : String} {pl : Sem Bool} {Q : Value × List Value → Shared → Prop} (h : (pO y).isSome = true) (r : RepV c.G c.φ y v) (hs : Slot "bytes" m id) (ht : typeOf (.builtin id) = pure (.type "method_descriptor")) (q : Q (.builtin id, [v]) c.s) : wpAny W.M A (getMethod v m pl) Q eS c.s := by
  obtain ⟨l, e⟩ := aU.mp h
  cases yn e
  revert q
  exact r.bytes fun _ t q => getMethod_builtin (typeIs_bytes _ _ _) FB.plainAttrs_bytes hs ht (fun a e => by cases e) q
theorem bm_ok {e : Expr} {m : Str} {b : B} {es : List Expr} {x : EX} {l : LX} {ap : Pos} (T : BmAt m b) (hx : SemX W sc xs n e x) (hl : SemL W sc xs n es l) (hp : n6 e = true) (hline : ap.endLine = pos.line) (hn : es.length < 30) :
    SemX W sc xs n (.Call (.Attribute e m ap) es [] pos) (fC b x l) := ⟨fun {ρ Q env A c} F R q => ⟨by
  refine qL hp hline hl.star hn fun pl => ?_
  refine hx.use F R q fun v c₁ y g₁ R₁ ry q => ?_
  obtain ⟨hb, q⟩ := kA q
  have hk : Keeps W b.val := by induction T using BmAt.casesOn <;> exact .inl ⟨_, rfl⟩
  have fin : wpAny W.M A (callWith pos b.val [v] (backTo pos (starEach es env)) (backToKw pos (keywordEach [] env))) (Post [] W c (Val Q)) eS c₁.s :=
    wpAny_mono (jy (Q' := Q) (fs := [v]) hl hk F R₁ q fun vs c' ys g R' rs q => by
      obtain ⟨v, σ', r, q⟩ := q
      exact r.ok F.A R' _ (.cons (ry.mono g.g g.p) rs) q) (fun _ _ p => p.then g₁) fun _ _ z => z
  induction T using BmAt.casesOn with
  | append => exact qh R₁.H hb ry PySem.F.slot_list_append PySem.F.type_list_append fin
  | extend => exact qh R₁.H hb ry PySem.F.slot_list_extend PySem.F.type_list_extend fin
  | pop => exact qh R₁.H hb ry PySem.F.slot_list_pop PySem.F.type_list_pop fin
  | find => exact om hb ry BM.slot_find BM.type_find fin
  | endswith => exact om hb ry FB.slot_bytes_endswith FB.type_bytes_endswith fin
  | joinB => exact om hb ry BM.slot_join BM.type_join fin
  | joinS =>
    obtain ⟨l, e⟩ := aU.mp hb
    cases w8 e
    revert fin
    exact ry.str fun t fin => getMethod_builtin (typeIs_str _ _ _) PySem.F.plainAttrs_str PySem.F.slot_str_join PySem.F.type_str_join (fun a e => by cases e) fin⟩⟩
end
set_option backward.match.sparseCases false
@[reducible] noncomputable def gZ (b : SX) (Q : FX) : FX
  | .next, ρ, σ => b ρ σ Q
  | .brk, ρ, σ => Q .brk ρ σ
  | .cont, ρ, σ => Q .cont ρ σ
  | .ret v, ρ, σ => Q (.ret v) ρ σ
@[reducible] noncomputable def nB (nx : SX) (Q : FX) : FX
  | .next, ρ, σ => nx ρ σ Q
  | .cont, ρ, σ => nx ρ σ Q
  | .brk, ρ, σ => Q .next ρ σ
  | .ret v, ρ, σ => Q (.ret v) ρ σ
noncomputable abbrev kW : SX := fun _ _ _ => False
noncomputable abbrev an (a b : SX) : SX := fun ρ σ Q => a ρ σ (gZ b Q)
noncomputable abbrev aq : SX := fun ρ σ Q => Q .next ρ σ
noncomputable abbrev sBrk : SX := fun ρ σ Q => Q .brk ρ σ
noncomputable abbrev sCont : SX := fun ρ σ Q => Q .cont ρ σ
noncomputable abbrev sRet0 : SX := fun ρ σ Q => Q (.ret .none) ρ σ
noncomputable abbrev ret2 (ρ : List V) (Q : FX) (d : D) (σ : List MO) : Prop := Q (.ret d) ρ σ
noncomputable abbrev retK (ρ : List V) (Q : FX) (v : V) (σ : List MO) : Prop := zR v σ (ret2 ρ Q)
noncomputable abbrev bS (e : EX) : SX := fun ρ σ Q => e ρ σ (retK ρ Q)
noncomputable abbrev exK (ρ : List V) (Q : FX) (_ : V) (σ : List MO) : Prop := Q .next ρ σ
noncomputable abbrev iY (e : EX) : SX := fun ρ σ Q => e ρ σ (exK ρ Q)
noncomputable abbrev asK (i : Nat) (ρ : List V) (Q : FX) (v : V) (σ : List MO) : Prop := Q .next (kV i v ρ) σ
noncomputable abbrev dN (i : Nat) (e : EX) : SX := fun ρ σ Q => e ρ σ (asK i ρ Q)
noncomputable abbrev tupF (is : List Nat) (ρ : List V) (Q : FX) (σ : List MO) (l : List D) : Prop := chk (rH l.length is.length) (Q .next (jr is (l.map .d) ρ) σ)
noncomputable abbrev tupA (is : List Nat) (ρ : List V) (Q : FX) (v : V) (σ : List MO) : Prop := alt (asTup v) (tupF is ρ Q σ) (fB (cu σ v) (tupF is ρ Q σ))
noncomputable abbrev oQ (is : List Nat) (e : EX) : SX := fun ρ σ Q => e ρ σ (tupA is ρ Q)
noncomputable abbrev tupD (is : List Nat) (ρ : List V) (Q : FX) (vs : List V) (σ : List MO) : Prop := chk (rH vs.length is.length) (Q .next (jr is vs ρ) σ)
noncomputable abbrev dM (is : List Nat) (l : LX) : SX := fun ρ σ Q => l ρ σ (tupD is ρ Q)
noncomputable abbrev nxt (ρ : List V) (Q : FX) (σ : List MO) : Prop := Q .next ρ σ
noncomputable abbrev at2 (cs : List (Nat × Nat)) (ρ : List V) (Q : FX) (v o : V) (σ : List MO) : Prop := stK cs o v σ (nxt ρ Q)
noncomputable abbrev at1 (cs : List (Nat × Nat)) (o : EX) (ρ : List V) (Q : FX) (v : V) (σ : List MO) : Prop := o ρ σ (at2 cs ρ Q v)
noncomputable abbrev rR (cs : List (Nat × Nat)) (o e : EX) : SX := fun ρ σ Q => e ρ σ (at1 cs o ρ Q)
noncomputable def si3 (ρ : List V) (Q : FX) (v o i : V) (σ : List MO) : Prop := ∃ σ', SetR σ o i v σ' ∧ Q .next ρ σ'
theorem pX {ρ : List V} {Q : FX} {v o i : V} {σ σ' : List MO} (h : SetR σ o i v σ') (q : Q .next ρ σ') : si3 ρ Q v o i σ := ⟨σ', h, q⟩
noncomputable abbrev si2 (i : EX) (ρ : List V) (Q : FX) (v o : V) (σ : List MO) : Prop := i ρ σ (si3 ρ Q v o)
noncomputable abbrev si1 (o i : EX) (ρ : List V) (Q : FX) (v : V) (σ : List MO) : Prop := o ρ σ (si2 i ρ Q v)
noncomputable abbrev wj (o i e : EX) : SX := fun ρ σ Q => e ρ σ (si1 o i ρ Q)
noncomputable abbrev augI (op : Operator) (a b : V) (F : V → Prop) : Prop := match op with
  | .Add => fB (em a) fun i => fB (em b) fun j => F (.d (.int (i + j)))
  | .Sub => fB (em a) fun i => fB (em b) fun j => F (.d (.int (i - j)))
  | _ => False
noncomputable abbrev augK (i : Nat) (op : Operator) (ρ : List V) (Q : FX) (v : V) (σ : List MO) : Prop := augI op (iQ i ρ) v fun z => Q .next (kV i z ρ) σ
noncomputable abbrev aug0 (i : Nat) (op : Operator) (e : EX) (ρ : List V) (σ : List MO) (Q : FX) (_ : Int) : Prop := e ρ σ (augK i op ρ Q)
noncomputable abbrev kX (i : Nat) (op : Operator) (e : EX) : SX := fun ρ σ Q => fB (em (iQ i ρ)) (aug0 i op e ρ σ Q)
noncomputable abbrev aa3 (cs : List (Nat × Nat)) (op : Operator) (ρ : List V) (Q : FX) (o y v : V) (σ : List MO) : Prop := augI op y v fun z => stK cs o z σ (nxt ρ Q)
noncomputable abbrev aa2 (cs : List (Nat × Nat)) (op : Operator) (e : EX) (ρ : List V) (Q : FX) (o y : V) (σ : List MO) : Prop := e ρ σ (aa3 cs op ρ Q o y)
noncomputable abbrev aa1 (cs : List (Nat × Nat)) (op : Operator) (e : EX) (ρ : List V) (Q : FX) (o : V) (σ : List MO) : Prop := atK cs (aa2 cs op e ρ Q o) o σ
noncomputable abbrev sE (cs : List (Nat × Nat)) (o : EX) (op : Operator) (e : EX) : SX := fun ρ σ Q => o ρ σ (aa1 cs op e ρ Q)
noncomputable abbrev sifK (a b : SX) (ρ : List V) (Q : FX) (c : Bool) (σ : List MO) : Prop := tT c (a ρ σ Q) (b ρ σ Q)
noncomputable abbrev fu (t : TX) (a b : SX) : SX := fun ρ σ Q => t ρ σ (sifK a b ρ Q)
noncomputable abbrev whK (b nx : SX) (ρ : List V) (Q : FX) (c : Bool) (σ : List MO) : Prop := tT c (b ρ σ (nB nx Q)) (Q .next ρ σ)
noncomputable def cW (t : TX) (b : SX) : Nat → SX
  | 0 => kW
  | m + 1 => fun ρ σ Q => t ρ σ (whK b (cW t b m) ρ Q)
noncomputable def tQ (t : TX) (b : SX) : SX := fun ρ σ Q => ∃ m, cW t b m ρ σ Q
noncomputable def gl (b : SX) (i : Nat) : List D → SX
  | [] => aq
  | d :: r => fun ρ σ Q => b (kV i (.d d) ρ) σ (nB (gl b i r) Q)
noncomputable def for2 (b : SX) (i : Nat) (ρ : List V) (Q : FX) (d : D) (σ : List MO) : Prop := fB (jG d) fun ds => gl b i ds ρ σ Q
noncomputable abbrev for1 (b : SX) (i : Nat) (ρ : List V) (Q : FX) (v : V) (σ : List MO) : Prop := zR v σ (for2 b i ρ Q)
noncomputable abbrev jC (i : Nat) (it : EX) (b : SX) : SX := fun ρ σ Q => it ρ σ (for1 b i ρ Q)
noncomputable def iA : Expr → Bool | .ListComp .. => true | .SetComp .. => true | .DictComp .. => true | _ => false
noncomputable def gY : List Expr → Option (List Str)
  | [] => some []
  | .Name x _ :: r => (gY r).map (x :: ·)
  | _ => none
noncomputable def lH : Expr → Bool
  | .Tuple vs _ _ => vs.all (foldedForSure 8) || !vs.all (constantsAlone 8)
  | _ => true
section
variable {W : Wd} {sc : Scope} {n : Nat} {xs : List Str} {env : Env} {A : Around} {ρ : List V} {c c₁ : Cf} {pos : Pos}
theorem lG {e : Expr} {t : Option Expr} {l : Nat} (h : iA e = false) : swapsWith e t l env = pure false := by induction e using PySem.Expr.casesOn <;> first | rfl | cases h
theorem db {Q : FX} {ρ' : List V} {f : Flow} {fl : Fl} (g : Go (fa env) W c c₁) (R : RelF W env xs ρ' c₁) (r : FlRep c₁.G fl f) (q : Q fl ρ' c₁.σ) : Post (fa env) W c (FlPost W env xs Q) f c₁.s := .mk g (.mk r R q)
theorem SemS.then {t : Env → Sem Flow} {x : SX} {Q : FX} (h : SemS W sc xs n t x) (F : Fr n sc env A) (R : RelF W env xs ρ c₁) (hx : x ρ c₁.σ Q) (g : Go (fa env) W c c₁) : wpAny W.M A (t env) (Post (fa env) W c (FlPost W env xs Q)) eS c₁.s := (h.run F R hx).then g
theorem gf {t : Env → Sem Flow} : SemS W sc xs n t kW := ⟨fun _ _ h => h.elim⟩
theorem nil_ok : SemS W sc xs n (execs []) aq := ⟨fun F R h => ⟨wpAny_execs_nil (db R.H.go R .next h)⟩⟩
theorem seq_ok {st : Stmt} {r : List Stmt} {a b : SX} (ha : SemS W sc xs n (exec st) a) (hb : SemS W sc xs n (execs r) b) : SemS W sc xs n (execs (st :: r)) (an a b) := ⟨fun F R h => ⟨by
  rw [arm_execs_cons]
  refine wpAny_bind ((ha.run F R h).post fun f c₁ g z => ?_)
  induction z using FlPost.casesOn with | @mk fl ρ₁ r R₁ q =>
  induction r using FlRep.casesOn with
  | next => exact hb.then F R₁ q g
  | brk => exact wpAny_pure (db g R₁ .brk q)
  | cont => exact wpAny_pure (db g R₁ .cont q)
  | ret r => exact wpAny_pure (db g R₁ (.ret r) q)⟩⟩
theorem pass_ok : SemS W sc xs n (exec (.Pass pos)) aq := ⟨fun F R h => ⟨wpAny_Pass (db R.H.go R .next h)⟩⟩
theorem brk_ok : SemS W sc xs n (exec (.Break pos)) sBrk := ⟨fun F R h => ⟨wpAny_Break (db R.H.go R .brk h)⟩⟩
theorem cont_ok : SemS W sc xs n (exec (.Continue pos)) sCont := ⟨fun F R h => ⟨wpAny_Continue (db R.H.go R .cont h)⟩⟩
theorem ret0_ok : SemS W sc xs n (exec (.Return none pos)) sRet0 := ⟨fun F R h => ⟨wpAny_Return_none (db R.H.go R (.ret .none) h)⟩⟩
theorem ret_ok {e : Expr} {x : EX} (hx : SemX W sc xs n e x) : SemS W sc xs n (exec (.Return (some e) pos)) (bS x) := ⟨fun F R h => ⟨wpAny_Return_some (hx.use F R h fun v c₁ y g R₁ ry q => by
  obtain ⟨G', σ', d, g', r, q⟩ := o8 R₁.H q ry
  exact db (c₁ := ⟨G', c₁.φ, σ', c₁.s⟩) ((g.trans g').fr R) (R₁.go g') (.ret r) q)⟩⟩
theorem ex_ok {e : Expr} {x : EX} (hx : SemX W sc xs n e x) (hc : iA e = false) : SemS W sc xs n (exec (.Expr e pos)) (iY x) := ⟨fun F R h => ⟨wpAny_Expr_any
  (hx.use F R h fun v c₁ y g R₁ ry q => db (g.fr R) R₁ .next q) (by unfold interactive; rw [F.E.fn]; rfl) (lG hc)⟩⟩
theorem as_ok {e : Expr} {x : EX} {i : Nat} {z : Str} {p : Pos} (VX : rC sc xs) (hz : xs[i]? = some z) (hx : SemX W sc xs n e x) (hc : iA e = false) : SemS W sc xs n (exec (.Assign [.Name z p] e pos)) (dN i x) := ⟨fun F R h => ⟨wpAny_Assign_Name
  (hx.use F R h fun v c₁ y g R₁ ry q => lI F.E VX R₁ hz ry fun c₂ g' R₂ _ _ eσ => db ((g.fr R).trans g') R₂ .next (eσ ▸ q)) (lG hc)⟩⟩
theorem Av : ∀ {ts : List Expr} {ns : List Str}, gY ts = some ns → (assignEach ts env).length = ns.length ∧ (assignEach ts env).findIdx? (·.1) = none ∧ All2 (vV W A env) ((assignEach ts env).map (·.2)) ns ∧ ts.length = ns.length
  | [], _, h => by cases h; exact ⟨rfl, rfl, .nil, rfl⟩
  | t :: r, ns, h => by
    induction t using PySem.Expr.casesOn with
    | Name x p =>
      obtain ⟨nr, h', rfl⟩ := bo.mp h
      obtain ⟨a, b, c, d⟩ := Av h'
      rw [show assignEach (.Name x p :: r) env = (false, assign (.Name x p) env) :: assignEach r env from rfl]
      exact ⟨congrArg (· + 1) a, (eO ..).trans (by rw [b]; rfl), .cons (fun v Q E s h => wpAny_assign_Name h) c, congrArg (· + 1) d⟩
    | _ => exact bm h
theorem wv {f : Expr → Option Str} (hf : ∀ x p, f (.Name x p) = some x ∨ f (.Name x p) = none) : ∀ {ts : List Expr} {ns : List Str}, gY ts = some ns → (ts.filterMap f).length ≤ ts.length ∧ ((ts.filterMap f).length = ts.length → ts.filterMap f = ns)
  | [], _, h => by cases h; exact ⟨au _, fun _ => rfl⟩
  | t :: r, ns, h => by
    induction t using PySem.Expr.casesOn with
    | Name x p =>
      obtain ⟨nr, h', rfl⟩ := bo.mp h
      obtain ⟨a, b⟩ := wv hf h'
      rcases hf x p with e | e
      · rw [Af, e]
        exact ⟨aj a, fun q => congrArg _ (b (fI.inj q))⟩
      · rw [Af, e]
        exact ⟨bg a, fun q => absurd (q ▸ a) (oJ _)⟩
    | _ => exact bm h
theorem xz {ts : List Expr} {k : Nat} {p : Pos} {e : Expr} {ns : List Str} (h : gY ts = some ns) (hs : lH e = true) :
    swappedStores [.Tuple ts k p] e env = pure none ∨ swappedStores [.Tuple ts k p] e env = pure (some ns) := by
  induction e using PySem.Expr.casesOn with
  | Tuple vs i q =>
    have hs := (me .. |>.mp hs)
    unfold swappedStores
    dsimp only
    split
    · exact .inl rfl
    · split
      · exact .inl rfl
      · split
        · exact .inl rfl
        · rename_i hn
          split
          · exact .inl rfl
          · rename_i hf
            split
            · rename_i hc
              rcases hs with hs | hs
              · exact absurd hs hf
              · rw [hc] at hs; cases hs
            · right
              simp only [bne_iff_ne, ne_eq, me, not_or, Decidable.not_not] at hn
              rw [(wv (f := _) (fun x p => ?_) h).2 hn.1]
              by_cases hc : (env.kindOf x == some NameKind.local && p.line == (ts.head?.map (·.pos.line)).getD 0) = true
              · exact .inl (if_pos hc)
              · exact .inr (if_neg hc)
  | _ => exact .inl rfl
theorem um {a b : V} : ∀ {ρ : List V} {i j : Nat}, i ≠ j → kV i a (kV j b ρ) = kV j b (kV i a ρ)
  | [], i, j, _ => by induction i using Nat.casesOn <;> induction j using Nat.casesOn <;> rfl
  | _ :: _, 0, 0, h => (h rfl).elim
  | _ :: _, 0, j + 1, _ => rfl
  | _ :: _, i + 1, 0, _ => rfl
  | _ :: r, i + 1, j + 1, h => congrArg (_ :: ·) (um (i := i) (j := j) (ρ := r) fun e => h (congrArg _ e))
theorem sA {i : Nat} {y : V} : ∀ {is : List Nat} {ys : List V} {ρ : List V}, i ∉ is → jr is ys (kV i y ρ) = kV i y (jr is ys ρ)
  | [], _, _, _ => rfl
  | _ :: _, [], _, _ => rfl
  | j :: is, z :: ys, ρ, h => (congrArg (jr is ys) (um fun e : j = i => h (e ▸ .head _))).trans (sA fun m => h (.tail _ m))
theorem sB {i : Nat} {y : V} : ∀ {is : List Nat} {ys : List V} {ρ : List V}, is.length = ys.length → jr (is ++ [i]) (ys ++ [y]) ρ = kV i y (jr is ys ρ)
  | [], [], _, _ => rfl
  | _ :: is, _ :: ys, _, h => sB (is := is) (ys := ys) (fI.inj h)
theorem nn : ∀ {is : List Nat} {ys : List V} {ρ : List V}, is.Nodup → is.length = ys.length → jr is.reverse ys.reverse ρ = jr is ys ρ
  | [], [], _, _, _ => rfl
  | i :: is, y :: ys, ρ, h, e => by
    obtain ⟨h1, h2⟩ := bt.mp h
    rw [dU, dU, sB (by rw [er, er]; exact fI.inj e), nn h2 (fI.inj e)]
    exact (sA h1).symm
theorem wd {ts : List Expr} {is : List Nat} {u : Nat} {p : Pos} {e : Expr} {ns : List Str} (h1 : gY ts = some ns) (VX : rC sc xs) (hn : l8 xs is ns) (h2 : is.Nodup) (h4 : lH e = true) (h5 : iA e = false) {Q : FX} (F : Fr n sc env A) (R : RelF W env xs ρ c)
    (h : ∀ {P : Value → Shared → Prop}, (∀ v c' ys, Go [] W c c' → RelF W env xs ρ c' → ys.length = is.length → Q .next (jr is ys ρ) c'.σ →
      (∀ {Q' : List Value → Shared → Prop} {E : Value → Shared → Prop}, (∀ vs h' tk, All2 (RepV c'.G c'.φ) ys vs → (∀ b o, c'.s.heap.get? b = some o → h'.get? b = some o) → Q' vs { c'.s with heap := h', toks := tk }) → wpAny W.M A (unpackItems v ns.length none) Q' E c'.s) → P v c'.s) → wpAny W.M A (eval e env) P eS c.s) :
    wpAny W.M A (exec (.Assign [.Tuple ts u p] e pos) env) (Post (fa env) W c (FlPost W env xs Q)) eS c.s := by
  have h5' : swapsWithSole [.Tuple ts u p] e pos.line env = pure false := (show swapsWithSole [.Tuple ts u p] e pos.line env = swapsWith e (some (.Tuple ts u p)) pos.line env from rfl).trans (lG h5)
  have hl : is.length = ns.length := hn.length.symm
  have fin : ∀ {is' : List Nat} {ns' : List Str} {ys : List V} {vs : List Value} {fs : List (Value → Sem Unit)} {c' : Cf} {h' : Heap} {tk : Nat} {ρ' : List V}, Go [] W c c' → RelF W env xs ρ c' → l8 xs is' ns' → All2 (vV W A env) fs ns' → is'.length = ys.length → All2 (RepV c'.G c'.φ) ys vs →
      (∀ b o, c'.s.heap.get? b = some o → h'.get? b = some o) → jr is' ys ρ = ρ' → Q .next ρ' c'.σ → wpAny W.M A (assignInOrder fs vs) (fun _ s' => Post (fa env) W c (FlPost W env xs Q) .next s') eS { c'.s with heap := h', toks := tk } := by
    intro is' ns' ys vs fs c' h' tk ρ' g R' hn a hy rs kp e q
    have g2 := R'.H.more (X := []) (k := tk) kp
    exact zx F.E VX hn a hy (R'.go g2) rs fun c₃ g₃ R₃ eσ => db (((g.trans g2).fr R).trans g₃) (e ▸ R₃) .next (by rw [eσ]; exact q)
  rcases xz (env := env) h1 h4 with hw | hw
  · refine PyProof.Rows.Assign_Tuple (h fun v c' ys g R' hy q hu => ?_) h5' hw
    rw [arm_assign_Tuple]
    refine wpAny_bind (wpAny_standAt ?_)
    obtain ⟨a1, a2, a3, _⟩ := Av (W := W) (A := A) (env := env) h1
    unfold unpack
    rw [a2, a1]
    exact wpAny_bind (wpAny_holding (hu fun vs h' tk rs kp => fin g R' hn a3 hy.symm rs kp rfl q))
  · refine PyProof.Rows.Assign_Tuple_swapped (h fun v c' ys g R' hy q hu => ?_) h5' hw
    refine hu fun vs h' tk rs kp => ?_
    exact fin g R' hn.reverse oO (by rw [er, er]; exact hy.symm) rs.reverse kp (nn h2 hy.symm) q
end
set_option backward.match.sparseCases true
section
variable {W : Wd} {sc : Scope} {n : Nat} {xs : List Str} {env : Env} {A : Around} {ρ : List V} {c c₁ : Cf} {pos : Pos}
theorem All2.dmap {G : Fz} {φ : rD} {l : List D} {vs : List Value} (r : All2 (Rep G) l vs) : All2 (RepV G φ) (l.map .d) vs := by
  induction r with
  | nil => exact .nil
  | cons a _ ih => exact .cons (.d a) ih
theorem vM {k m : Nat} (h : rH k m = true) : k = m := nj h
theorem stup_ok {ts : List Expr} {is : List Nat} {u : Nat} {p : Pos} {e : Expr} {x : EX} {ns : List Str} (h1 : gY ts = some ns) (VX : rC sc xs) (hn : l8 xs is ns) (h2 : is.Nodup) (h4 : lH e = true) (h5 : iA e = false) (hx : SemX W sc xs n e x) :
    SemS W sc xs n (exec (.Assign [.Tuple ts u p] e pos)) (oQ is x) := ⟨fun {ρ Q env A c} F R h => ⟨wd h1 VX hn h2 h4 h5 F R fun {P} fin => hx.use F R h fun v c₁ y g R₁ ry q => by
  obtain ⟨l, hu, hl, q⟩ : ∃ l, UnpR c₁.σ y l ∧ l.length = is.length ∧ Q .next (jr is (l.map .d) ρ) c₁.σ := by
    refine l5 q (fun l e q => ?_) fun q => ?_
    · obtain ⟨hl, q⟩ := kA q
      exact ⟨l, BL e ▸ .tup l, vM hl, q⟩
    · obtain ⟨l, e, q⟩ := bI q
      obtain ⟨hl, q⟩ := kA q
      exact ⟨l, .it e, vM hl, q⟩
  refine fin v c₁ _ g R₁ ((ah ..).trans hl) q fun {Q' E} k => ?_
  rw [hn.length, ← hl]
  exact hu.ok F.A R₁.H v ry fun vs h' tk rs kp => k vs h' tk (rs.dmap) kp⟩⟩
theorem Aw {ts es : List Expr} {is : List Nat} {u u' : Nat} {p p' : Pos} {l : LX} {ns : List Str} (h1 : gY ts = some ns) (VX : rC sc xs) (hn : l8 xs is ns) (h2 : is.Nodup) (h4 : lH (.Tuple es u' p') = true) (hz : es.length ≤ 1000) (hl : SemL W sc xs n es l) :
    SemS W sc xs n (exec (.Assign [.Tuple ts u p] (.Tuple es u' p') pos)) (dM is l) := ⟨fun {ρ Q env A c} F R h => ⟨wd h1 VX hn h2 h4 rfl F R fun {P} fin => by
  rw [arm_eval_Tuple]
  refine wpAny_bind (wpAny_standAt (wpAny_bind (hl.use F R h fun vs c₁ ys g R₁ e rs q => ?_)))
  obtain ⟨hy, q⟩ := kA q
  have hy := vM hy
  refine wpAny_newTuple ?_ (vx e hz)
  have kp := bC c₁.s.heap { cls := .type "tuple", data := .seq vs.toArray }
  have g2 := R₁.H.more (X := []) (k := c₁.s.toks) kp
  refine fin _ _ ys (g.trans g2) (R₁.go g2) hy q fun {Q' E} k => ?_
  have ht : Heap.IsTuple (c₁.s.heap.push { cls := .type "tuple", data := .seq vs.toArray }) c₁.s.heap.objs.size vs.toArray := ⟨_, Heap.get?_push_size _ rfl, rfl, _, rfl⟩
  rw [hn.length, ← hy, ← rs.length]
  exact lE (s := { c₁.s with heap := c₁.s.heap.push { cls := .type "tuple", data := .seq vs.toArray } }) (St := fun i h => h.IsTupleIter _ c₁.s.heap.objs.size i ∧ h.IsTuple c₁.s.heap.objs.size vs.toArray) ht.typeIs PySem.F.slot_tuple_iter.lookup (fun Q' q' => wpAny_pyIter_tuple ht q') (by
    have := Walks.tuple (prog := W.prog) (w := W.w) F.A.handled (c₁.s.heap.push { cls := .type "tuple", data := .seq vs.toArray }).objs.size c₁.s.heap.objs.size (by rw [Heap.size_push]; exact cY (bw _)) vs.toArray
    rwa [aX] at this) ⟨⟨_, Heap.get?_push_size _ rfl, rfl, rfl⟩, ht.push _⟩ (fun i v => qd) fun h' tk k' => k vs h' tk rs k'⟩⟩
theorem xL {Q : FX} {t : Sem Unit} (R : RelF W env xs ρ c₁) (g : Go [] W c c₁) (R0 : RelF W env xs ρ c) (h : wpAny W.M A t (Post [] W c₁ fun _ c' => nxt ρ Q c'.σ) eS c₁.s) :
    wpAny W.M A t (fun _ s' => Post (fa env) W c (FlPost W env xs Q) .next s') eS c₁.s :=
  wpAny_mono h (fun _ s' p => by induction p using Post.casesOn with | mk g' q => exact db ((g.trans g').fr R0) (R.go g') .next q) fun _ _ z => z
theorem sat_ok {o e : Expr} {a : Str} {cs : List (Nat × Nat)} {x y : EX} {p : Pos} (T : FldOk W.K a cs) (hx : SemX W sc xs n e x) (hy : SemX W sc xs n o y) (hc : iA e = false) : SemS W sc xs n (exec (.Assign [.Attribute o a p] e pos)) (rR cs y x) := ⟨fun F R h => ⟨plainObj_wpAny_Assign_Attribute
  (hx.use F R h fun v c₁ z g₁ R₁ rz q => hy.use F R₁ q fun w c₂ o g₂ R₂ ro q => xL R₂ (g₁.trans g₂) R (AB T q R₂.H ro (rz.mono g₂.g g₂.p))) (lG hc)⟩⟩
theorem sidx_ok {o i e : Expr} {x y z : EX} {p : Pos} (hx : SemX W sc xs n e x) (hy : SemX W sc xs n o y) (hz : SemX W sc xs n i z) (hc : iA e = false) : SemS W sc xs n (exec (.Assign [.Subscript o i p] e pos)) (wj y z x) := ⟨fun F R h => ⟨wpAny_Assign_Subscript
  (hx.use F R h fun v c₁ b g₁ R₁ rb q => hy.use F R₁ q fun w c₂ o g₂ R₂ ro q => hz.use F R₂ q fun j c₃ i g₃ R₃ ri q => by
    obtain ⟨σ', r, q⟩ := q
    exact xL R₃ ((g₁.trans g₂).trans g₃) R (r.ok F.A R₃.H _ _ _ (ro.mono g₃.g g₃.p) ri ((rb.mono g₂.g g₂.p).mono g₃.g g₃.p) q)) (lG hc)⟩⟩
theorem zi {op : Operator} {a b : V} {F : V → Prop} {Q : Value → Shared → Prop} {s : Shared} (h : augI op a b F) : ∀ va vb : Value, RepV c.G c.φ a va → RepV c.G c.φ b vb → (∀ i t k, F (.d (.int i)) → Q (.int i t) { s with toks := k }) → wpAny W.M A (inplaceOp op va vb) Q eS s := by
  induction op using PySem.Operator.casesOn with
  | Add =>
    intro va vb ra rb q
    obtain ⟨i, e, h⟩ := bI h
    obtain ⟨j, e', h⟩ := bI h
    exact jH e ra fun t => jH e' rb fun u => iadd_int (q _ _ _ h)
  | Sub =>
    intro va vb ra rb q
    obtain ⟨i, e, h⟩ := bI h
    obtain ⟨j, e', h⟩ := bI h
    exact jH e ra fun t => jH e' rb fun u => isub_int (q _ _ _ h)
  | _ => exact h.elim
theorem augI_un {op : Operator} {a b : V} {F : V → Prop} (h : augI op a b F) : a ≠ .un := by
  rintro rfl
  induction op using PySem.Operator.casesOn <;> exact h.elim
theorem saug_ok {z : Str} {i : Nat} {op : Operator} {e : Expr} {x : EX} {p : Pos} (VX : rC sc xs) (hz : xs[i]? = some z) (hx : SemX W sc xs n e x) :
    SemS W sc xs n (exec (.AugAssign (.Name z p) op e pos)) (kX i op x) := ⟨fun {ρ Q env A c} F R h => ⟨by
  refine wpAny_AugAssign_Name ?_
  obtain ⟨_, eu, h⟩ := bI h
  refine (yR F.E R (pos := pos) hz (by rw [pN eu]; exact nofun) fun a ra => ?_).1
  refine hx.use F R h fun v c₁ y g R₁ ry q => ?_
  exact zi (c := c₁) q _ _ (ra.mono g.g g.p) ry fun j t k q => lI (c := c₁.to c₁.s.heap k) F.E VX (R₁.go (R₁.H.tick k)) hz (.d (.int j t)) fun c₂ g' R₂ _ _ eσ => db (((g.trans (R₁.H.tick k)).fr R).trans g') R₂ .next (by rw [eσ]; exact q)⟩⟩
theorem zB {o e : Expr} {a : Str} {cs : List (Nat × Nat)} {op : Operator} {x y : EX} {p : Pos} (T : FldOk W.K a cs) (hx : SemX W sc xs n e x) (hy : SemX W sc xs n o y) : SemS W sc xs n (exec (.AugAssign (.Attribute o a p) op e pos)) (sE cs y op x) := ⟨fun {ρ Q env A c} F R h => ⟨by
  refine wpAny_AugAssign_AttributeAny ?_
  refine hy.use F R h fun ov c₁ o g₁ R₁ ro q => ?_
  refine wpAny_mono (BK T q R₁.H ro) (fun va s₂ p => ?_) fun _ _ z => z
  induction p using Post.casesOn with | @mk c₂ g₂ z =>
  induction z using Val.casesOn with | @mk w rw q =>
  have R₂ := R₁.go g₂
  refine hx.use F R₂ q fun v c₃ y g₃ R₃ ry q => ?_
  refine zi (c := c₃) q _ _ (rw.mono g₃.g g₃.p) ry fun j t k q => ?_
  have gk := R₃.H.tick (X := []) k
  exact xL (R₃.go gk) (((g₁.trans g₂).trans g₃).trans gk) R (AB (c := c₃.to c₃.s.heap k) T q gk.H ((ro.mono g₂.g g₂.p).mono g₃.g g₃.p) (.d (.int j t)))⟩⟩
theorem sif_ok {t : Expr} {as bs : List Stmt} {x : TX} {a b : SX} (ht : SemT W sc xs n t x) (ha : SemS W sc xs n (execs as) a) (hb : SemS W sc xs n (execs bs) b) : SemS W sc xs n (exec (.If t as bs pos)) (fu x a b) := ⟨fun F R h => ⟨wpAny_If
  (ht.use F R h fun r c₁ g R₁ q => by
    induction r using Bool.casesOn with
    | true => exact ha.then F R₁ (zX q) (g.fr R)
    | false => exact hb.then F R₁ (zY q) (g.fr R))⟩⟩
theorem swh_ok {t : Expr} {bs : List Stmt} {x : TX} {b : SX} (ht : SemT W sc xs n t x) (hb : SemS W sc xs n (execs bs) b) : SemS W sc xs n (exec (.While t bs [] pos)) (tQ x b) := ⟨fun {ρ Q env A c} F R h => ⟨by
  refine wpAny_While ?_
  obtain ⟨m, h⟩ := h
  refine codeAny_whileLoop (fun m s' => ∃ c' ρ', c'.s = s' ∧ Go (fa env) W c c' ∧ RelF W env xs ρ' c' ∧ cW x b m ρ' c'.σ Q) ?_ m ⟨c, ρ, rfl, R.H.go, R, h⟩
  rintro m s' ⟨c₁, ρ₁, rfl, g₁, R₁, h₁⟩
  induction m using Nat.casesOn with
  | zero => exact h₁.elim
  | succ m =>
  refine wpAny_mono (ht.run F R₁ h₁).run (fun r s₂ p => ?_) fun _ _ z => z.elim
  induction p using Post.casesOn with | @mk c₂ g₂ q =>
  have R₂ := R₁.go g₂
  have g12 := g₁.trans (g₂.fr R₁)
  induction r using Bool.casesOn with
  | false => exact wpAny_execs_nil (db g12 R₂ .next (zY q))
  | true =>
    refine wpAny_mono (hb.run F R₂ (zX q)).run (fun f s₃ p => ?_) fun _ _ z => z.elim
    induction p using Post.casesOn with | @mk c₃ g₃ z =>
    have g13 := g12.trans g₃
    induction z using FlPost.casesOn with | @mk fl ρ₃ r R₃ q =>
    induction r using FlRep.casesOn with
    | next => exact ⟨m, bw _, c₃, ρ₃, rfl, g13, R₃, q⟩
    | cont => exact ⟨m, bw _, c₃, ρ₃, rfl, g13, R₃, q⟩
    | brk => exact db g13 R₃ .next q
    | ret r => exact db g13 R₃ (.ret r) q⟩⟩
end
section
variable {W : Wd} {sc : Scope} {n : Nat} {xs : List Str} {env : Env} {A : Around} {ρ : List V} {c c₁ : Cf} {pos : Pos}
theorem sfor_ok {z : Str} {i : Nat} {e : Expr} {x : EX} {bs : List Stmt} {b : SX} {p : Pos} (VX : rC sc xs) (hz : xs[i]? = some z) (hs : jU e = true) (hx : SemX W sc xs n e x) (hb : SemS W sc xs n (execs bs) b) : SemS W sc xs n (exec (.For (.Name z p) e bs [] pos)) (jC i x b) := ⟨fun {ρ Q env A c} F R h => ⟨by
  refine wpAny_For ?_ (by induction e using PySem.Expr.casesOn <;> first | (intro _; rfl) | cases hs)
  refine hx.use F R h fun v c₀ y g₀ R₀ ry q => ?_
  obtain ⟨G', σ', d, g₁, rd, q⟩ := o8 R₀.H q ry
  obtain ⟨ds, hds, h⟩ := bI q
  have g01 := g₀.trans g₁
  generalize hc₁ : (⟨G', c₀.φ, σ', c₀.s⟩ : Cf) = c₁ at g₁ g01
  obtain ⟨rfl, rfl, e₁⟩ : c₁.G = G' ∧ c₁.σ = σ' ∧ c₁.s = c₀.s := hc₁ ▸ ⟨rfl, rfl, rfl⟩
  rw [← e₁]
  have R₁ := R₀.go g₁
  refine yS hds R₁.H (fun o St hI st => ?_) rd
  let I := c₁.s.heap.objs.size
  have kp := bC c₁.s.heap o
  let c₂ : Cf := c₁.to (c₁.s.heap.push o) c₁.s.toks
  have g₂ : Go [] W c₁ c₂ := R₁.H.more kp
  have R₂ := R₁.go g₂
  have Ifr : c₁.s.heap.get? I = none := b5 _
  have Ifa : I ∉ fa env := fun m => by have := (R₁.off I m).alive; rw [Ifr] at this; cases this
  have IO : Off c₂ I := ⟨(R₁.H.clean Ifr).2, (R₁.H.clean Ifr).1, hI.alive 0 _ st⟩
  obtain ⟨fp, P, Wk, hfp, hP⟩ := hI.walks A F.A.handled
  have hY : ∀ b ∈ I :: fa env, ¬ tJ c₁.φ c₁.σ b := fun b m => (bc.mp m).elim (fun q => q ▸ (R₁.H.clean Ifr).2) fun m => (R₁.off b m).own
  have less : ∀ {c'}, Go (I :: fa env) W c₂ c' → Go (fa env) W c c' := fun g => (g01.fr R).trans (Go.less (k := c₁.s.toks) kp g (fun b m => (bc.mp m).elim (fun q => .inr (q ▸ Ifr)) .inl) fun b m => .tail _ m)
  refine codeAny_forLoop (fun m s' => ∃ i' c' ρ', i' ≤ ds.length ∧ m = ds.length - i' ∧ c'.s = s' ∧ RelF W env xs ρ' c' ∧ Go (I :: fa env) W c₂ c' ∧ St i' c'.s.heap ∧ gl b i (ds.drop i') ρ' c'.σ Q)
    ?_ ds.length ⟨0, c₂, ρ, aY _, rfl, rfl, R₂, R₂.H.go, st, h⟩
  rintro m s' ⟨j, c', ρ', hj, rfl, rfl, R', w', st', h'⟩
  have IO' := IO.go w'
  have fr : ∀ {X c''}, Go X W c' c'' → (∀ b ∈ X, b ∈ fa env) → Go (I :: fa env) W c' c'' := fun g k => g.wide (fun b m => .tail _ (k b m)) fun b m => (bc.mp m).elim (fun q => q ▸ IO'.own) fun m => (R'.off b m).own
  by_cases hlt : j < ds.length
  · rw [dP hlt] at h'
    refine Wk.item j c'.s _ _ hlt st' fun u h₁ tk₁ hp st₁ k₁ => ?_
    let c₃ : Cf := c'.to h₁ tk₁
    have al := hI.alive _ _ st₁
    have g₃ : Go (I :: fa env) W c' c₃ := (R'.H.goBut (k := tk₁) [I] (fun a m => am.mp m ▸ ⟨IO'.own, IO'.ice⟩) k₁ fun b m => am.mp m ▸ al).wide (fun b m => am.mp m ▸ .head _) fun b m => (bc.mp m).elim (fun q => q ▸ IO'.own) fun m => (R'.off b m).own
    have R₃ : RelF W env xs ρ' c₃ := R'.but (Y := [I]) (fun a m => am.mp m ▸ ⟨IO', Ifa⟩) k₁
    have ru : Rep c'.G ds[j] u := (hP j u _ hp (aO hlt)).mono w'.g
    refine wpAny_assign_Name (lI (c := c₃) F.E VX R₃ hz (.d ru) fun c₄ g₄ R₄ eG₄ eφ₄ eσ₄ => ?_)
    have h'' : b (kV i (.d ds[j]) ρ') c₄.σ (nB (gl b i (ds.drop (j + 1))) Q) := by rw [eσ₄]; exact h'
    refine wpAny_mono (hb.run F R₄ h'').run (fun f s₅ p => ?_) fun _ _ z => z.elim
    induction p using Post.casesOn with | @mk c₅ g₅ z =>
    induction z using FlPost.casesOn with | @mk fl ρ₅ r R₅ q =>
    have w45 := g₄.trans g₅
    have w5 : Go (I :: fa env) W c₂ c₅ := (w'.trans g₃).trans (w45.wide (fun b m => .tail _ m) fun b m => (bc.mp m).elim (fun q => q ▸ IO'.own) fun m => (R₃.off b m).own)
    have st₅ : St (j + 1) c₅.s.heap := Wk.frame _ _ _ st₁ fun b hb o e => by
      rcases hfp b hb with z | z
      · have z : b = I := z
        subst z
        exact w45.keep I o Ifa IO'.own e
      · obtain ⟨o', z⟩ := aU.mp z
        have a1 := w'.g _ _ z
        cases (R₃.H.fz _ _ a1).symm.trans e
        exact R₅.H.fz _ _ (w45.g _ _ a1)
    induction r using FlRep.casesOn with
    | next => exact ⟨ds.length - (j + 1), pQ hlt (bw _), j + 1, c₅, ρ₅, hlt, rfl, rfl, R₅, w5, st₅, q⟩
    | cont => exact ⟨ds.length - (j + 1), pQ hlt (bw _), j + 1, c₅, ρ₅, hlt, rfl, rfl, R₅, w5, st₅, q⟩
    | brk => exact db (less w5) R₅ .next q
    | ret r => exact db (less w5) R₅ (.ret r) q
  · obtain rfl : j = ds.length := bE hj (a7.mp hlt)
    rw [il] at h'
    refine Wk.done c'.s _ _ st' fun h₁ tk₁ k₁ => wpAny_execs_nil ?_
    have R₃ : RelF W env xs ρ' (c'.to h₁ tk₁) := R'.but (Y := [I]) (fun a m => am.mp m ▸ ⟨IO', Ifa⟩) k₁
    have gone : ¬ tJ c.φ c.σ I → c.s.heap.get? I = none := fun n => by
      cases e : c.s.heap.get? I with
      | none => rfl
      | some o => cases Ifr.symm.trans (g01.keep I o nofun n e)
    exact db ((less w').butNew (Y := [I]) (fun b m => am.mp m ▸ ⟨IO', Ifa, gone⟩) k₁) R₃ .next h'⟩⟩
end
noncomputable def wm (sc : Scope) : List (Str × NameKind) → List (Str × NameKind) :=
  zp fun (n, k) => if (k == .free && sc.kind == .function && sc.names.lookup n == some .cell) then (n, .cell) else (n, k)
noncomputable def bN (sc scope : Scope) : Scope := { scope with names := wm sc scope.names }
noncomputable def dC : List (Str × NameKind) → List Str
  | [] => []
  | (n, .free) :: r => n :: dC r
  | _ :: r => dC r
noncomputable def vL (l : List (Str × NameKind)) (y : Str) : Bool := l.lookup y == some .cell || l.lookup y == some .free
noncomputable def vJ (sc scope : Scope) (x : Str) : Bool :=
  scope.kind == .function && scope.names.all (fun p => p.2 != .cell && (p.2 != .local || scope.names.lookup p.1 == some .local)) && ((bN sc scope).names.lookup x == some .local &&
  (dC scope.names).all (fun y => vL sc.names y && vL (bN sc scope).names y)) && ((bN sc scope).names.all (fun p => (p.2 != .cell && p.2 != .free) || (dC scope.names).contains p.1) &&
  ((bN sc scope).names.lookup (aa "__debug__")).isNone && ((bN sc scope).names.lookup (aa "__classdict__")).isNone)
structure md (sc scope : Scope) (x : Str) : Prop where
  kind : scope.kind = .function
  nocell : ∀ p ∈ scope.names, p.2 ≠ .cell
  loc : ∀ p ∈ scope.names, p.2 = .local → scope.names.lookup p.1 = some .local
  tgt : (bN sc scope).names.lookup x = some .local
  outer : ∀ y ∈ dC scope.names, sc.names.lookup y = some .cell ∨ sc.names.lookup y = some .free
  inner : ∀ y ∈ dC scope.names, (bN sc scope).names.lookup y = some .cell ∨ (bN sc scope).names.lookup y = some .free
  only : ∀ y, (bN sc scope).names.lookup y = some .cell ∨ (bN sc scope).names.lookup y = some .free → y ∈ dC scope.names
  dbg : (bN sc scope).names.lookup (aa "__debug__") = none
  cd : (bN sc scope).names.lookup (aa "__classdict__") = none
theorem g8 {x : Str} {c : NameKind} : ∀ {l : List (Str × NameKind)}, l.lookup x = some c → (x, c) ∈ l
  | (y, d) :: r, h => by
    rw [fL] at h
    cases e : x == y with
    | true => rw [e] at h; cases h; rw [eq_of_beq e]; exact .head _
    | false => rw [e] at h; exact .tail _ (g8 h)
theorem zW {sc scope : Scope} {x : Str} (h : vJ sc scope x = true) : md sc scope x := by
  simp only [vJ, vL, aD, me, ip, beq_iff_eq, bne_iff_ne, ug, ig] at h
  obtain ⟨⟨⟨h1, h2⟩, h3, h4⟩, ⟨h5, h6⟩, h7⟩ := h
  exact ⟨h1, fun p m => (h2 p m).1, fun p m e => (h2 p m).2.elim (fun n => (n e).elim) id, h3, fun y m => (h4 y m).1, fun y m => (h4 y m).2,
    fun y e => e.elim (fun e => (h5 _ (g8 e)).elim (fun n => (n.1 rfl).elim) id) fun e => (h5 _ (g8 e)).elim (fun n => (n.2 rfl).elim) id, h6, h7⟩
theorem oi {env : Env} : ∀ (names : List (Str × NameKind)) (acc : List (Str × Addr)), (∀ y ∈ dC names, ∃ c, env.cells.lookup y = some c) → (∀ y c, (y, c) ∈ acc → env.cells.lookup y = some c) →
    ∃ cl : List (Str × Addr), (forIn names acc fun (x : Str × NameKind) (cs : List (Str × Addr)) => (do
        if (x.2 == NameKind.free) = true then do
          let c ← cellOf env x.1
          pure (ForInStep.yield ((x.1, c) :: cs))
        else pure (ForInStep.yield cs) : Sem _)) = pure cl ∧ (∀ y c, (y, c) ∈ cl → env.cells.lookup y = some c) ∧ (∀ y ∈ dC names, ∃ c, (y, c) ∈ cl) ∧ ∀ p ∈ acc, p ∈ cl
  | [], acc, h, ha => ⟨acc, by rw [List.forIn_nil], ha, fun y m => (bJ m).elim, fun _ m => m⟩
  | (n, k) :: r, acc, h, ha => by
    rw [List.forIn_cons]
    by_cases hk : k = .free
    · subst hk
      obtain ⟨c₀, hc₀⟩ := h n (.head _)
      obtain ⟨cl, a, b, c, d⟩ := oi r ((n, c₀) :: acc) (fun y m => h y (.tail _ m)) fun y c m => (bc.mp m).elim (fun e => by cases e; exact hc₀) (ha y c)
      refine ⟨cl, ?_, b, fun y m => (bc.mp m).elim (fun e => ⟨c₀, e ▸ d _ (.head _)⟩) (c y), fun p m => d p (.tail _ m)⟩
      unfold cellOf
      rw [hc₀]
      exact a
    · have hn : dC ((n, k) :: r) = dC r := by induction k using PySem.NameKind.casesOn <;> first | rfl | exact (hk rfl).elim
      obtain ⟨cl, a, b, c, d⟩ := oi r acc (fun y m => h y (hn ▸ m)) ha
      refine ⟨cl, ?_, b, fun y m => c y (hn ▸ m), d⟩
      rw [if_neg fun e => hk (beq_iff_eq.mp e)]
      exact a
theorem gW {x : Str} : ∀ {l : List (Str × Addr)} {c : Addr}, (x, c) ∈ l → ∃ c, l.lookup x = some c
  | (y, d) :: r, c, h => by
    rw [fL]
    cases e : x == y with
    | true => exact ⟨d, rfl⟩
    | false =>
      rcases bc.mp h with q | q
      · cases q; rw [beq_self_eq_true] at e; cases e
      · exact gW q
noncomputable def ya (caps : List Nat) (ρ : List V) : List V := caps.map fun i => iQ i ρ
theorem Bi {caps : List Nat} {ρ : List V} : ∀ {j : Nat}, iQ j (ya caps ρ) ≠ .un → ∃ i, caps[j]? = some i ∧ iQ j (ya caps ρ) = iQ i ρ := by
  induction caps with
  | nil => exact fun {j} h => (h (by induction j using Nat.casesOn <;> rfl)).elim
  | cons i r ih => exact fun {j} h => match j, h with | 0, _ => ⟨i, rfl, rfl⟩ | j + 1, h => ih (j := j) h
structure uQ (W : Wd) (sc : Scope) (xs : List Str) (n : Nat) (ifs : List Expr) (x : TX) : Prop where
  run : ∀ {ρ Q env A c}, Fr n sc env A → RelF W env xs ρ c → x ρ c.σ Q →
    Wp W A (forIn ifs true fun c r => if r = true then do let ok ← isTrue c env (eval c env); pure (ForInStep.yield ok) else pure (ForInStep.yield r)) (Post [] W c fun b c' => Q b c'.σ) c.s
section
variable {W : Wd} {sc : Scope} {n : Nat} {xs : List Str} {env : Env} {A : Around} {ρ : List V} {c c₁ : Cf} {pos : Pos}
theorem ts0_ok : uQ W sc xs n [] dh := ⟨fun F R h => ⟨wpAny_tests_nil (.mk R.H.go h)⟩⟩
theorem ts1_ok {e : Expr} {t : TX} (h : SemT W sc xs n e t) : uQ W sc xs n [e] t := ⟨fun F R q => ⟨wpAny_tests_one (h.run F R q).run⟩⟩
theorem lL {scope : Scope} (hE : EnvOk sc env) : relabel scope env = bN sc scope := by
  unfold relabel bN wm
  simp only [hE.scope, hE.kindOf]
structure ClOk (env : Env) (scope : Scope) (cl : List (Str × Addr)) : Prop where
  eq : closureFor scope env = pure cl
  mem : ∀ y c, (y, c) ∈ cl → env.cells.lookup y = some c
  all : ∀ y ∈ dC scope.names, ∃ c, cl.lookup y = some c
theorem ClOk.sub {scope : Scope} {cl : List (Str × Addr)} (h : ClOk env scope cl) (y : Str) (c : Addr) (e : cl.lookup y = some c) : env.cells.lookup y = some c := h.mem y c (gO e)
theorem cl_ok {scope : Scope} {x : Str} (hE : EnvOk sc env) (h : md sc scope x) : ∃ cl, ClOk env scope cl := by
  obtain ⟨cl, a, b, c, _⟩ := oi (env := env) scope.names [] (fun y m => hE.celled y (h.outer y m)) (fun _ _ m => (bJ m).elim)
  exact ⟨cl, by
    unfold closureFor
    exact (congrArg (fun t => t >>= fun cs => pure cs) a).trans rfl, b, fun y m => let ⟨c', hc⟩ := c y m; gW hc⟩
theorem Bu {scope : Scope} {cl : List (Str × Addr)} {C : Addr} {x : Str} (hE : EnvOk sc env) (h : md sc scope x) (hcl : ClOk env scope cl) (hC : ∀ y c, env.cells.lookup y = some c → c ≠ C) : EnvOk (bN sc scope) (compEnvC scope cl C env) where
  scope := lL hE
  glob := hE.glob
  blt := hE.blt
  kind := h.kind
  apart := fun y c e => hC y c (hcl.sub y c e)
  inj := fun y z c e e' => hE.inj y z c (hcl.sub y c e) (hcl.sub z c e')
  celled := fun y e => hcl.all y (h.only y e)
  nodebug := h.dbg
  noclsdict := h.cd
theorem Bt {scope : Scope} {cl : List (Str × Addr)} {C : Addr} {x : Str} {m : Str → Option Value} {d : D} {v : Value} {caps : List Nat} (hE : EnvOk sc env) (h : md sc scope x) (hcl : ClOk env scope cl) (hc : l8 xs caps (dC scope.names)) (R : RelF W env xs ρ c) (hO : Off c C) (hn : c.s.heap.Ns C m) (hm : m x = some v) (rd : Rep c.G d v) :
    RelF W (compEnvC scope cl C env) (x :: dC scope.names) (.d d :: ya caps ρ) c where
  H := R.H
  frm := ⟨⟨m, hn⟩, fun y c e => R.frm.cell y c (hcl.sub y c e)⟩
  off := fun a ha => by
    rcases bc.mp ha with ha | ha
    · have ha : a = C := ha
      subst ha; exact hO
    · obtain ⟨p, hp, rfl⟩ := gK.mp ha
      exact R.off _ (mq (hcl.mem p.1 p.2 hp))
  vars := fun j y hy nz => by
    have ek : ∀ y, (compEnvC scope cl C env).kindOf y = (bN sc scope).names.lookup y := fun y => by
      show (relabel scope env).names.lookup y = _
      rw [lL hE]
    induction j using Nat.casesOn with
    | zero => cases hy; exact ⟨v, .inl ⟨(ek _).trans h.tgt, m, hn, hm⟩, .d rd⟩
    | succ j =>
      have hy : (dC scope.names)[j]? = some y := hy
      obtain ⟨i, hi, e⟩ := Bi (j := j) nz
      have e : iQ (j + 1) (V.d d :: ya caps ρ) = iQ i ρ := e
      rw [e] at nz ⊢
      have hx := hc.at_ hi hy
      obtain ⟨u, hu, ru⟩ := R.vars i y hx nz
      have my := cq hy
      refine ⟨u, ?_, ru⟩
      rcases hu with ⟨kl, _⟩ | ⟨_, k, hk, ic⟩
      · rw [hE.kindOf] at kl
        rcases h.outer y my with q | q <;> rw [q] at kl <;> cases kl
      · obtain ⟨k', hk'⟩ := hcl.all y my
        cases hk.symm.trans (hcl.sub y k' hk')
        exact .inr ⟨(h.inner y my).imp (ek y).trans (ek y).trans, k, hk', ic⟩
structure CompAt (W : Wd) (env : Env) (xs : List Str) (ρ : List V) (I L C : Addr) (acc : List D) (c : Cf) : Prop where
  R : RelF W env xs ρ c
  oI : Off c I
  oL : Off c L
  oC : Off c C
  ns : ∃ m, c.s.heap.Ns C m
  lst : ∃ vs n, c.s.heap.get? L = some (listOf vs.toArray n) ∧ All2 (Rep c.G) acc vs
theorem lM {h h' : Heap} {C : Addr} (k : ∀ o, h.get? C = some o → h'.get? C = some o) (x : ∃ m, h.Ns C m) : ∃ m, h'.Ns C m := let ⟨m, o, es, ep, e, r⟩ := x; ⟨m, o, es, ep, k _ e, r⟩
theorem CompAt.go {I L C : Addr} {acc : List D} (x : CompAt W env xs ρ I L C acc c) (g : Go [] W c c₁) : CompAt W env xs ρ I L C acc c₁ where
  R := x.R.go g
  oI := x.oI.go g
  oL := x.oL.go g
  oC := x.oC.go g
  ns := lM (fun o e => g.keep _ _ nofun x.oC.own e) x.ns
  lst := let ⟨vs, n, e, r⟩ := x.lst; ⟨vs, n, g.keep _ _ nofun x.oL.own e, r.imp fun _ _ => Rep.mono g.g⟩
theorem Off.but {Y : List Addr} {a : Addr} {h : Heap} {k : Nat} (o : Off c a) (kp : ∀ b o, b ∉ Y → c.s.heap.get? b = some o → h.get? b = some o) (n : a ∉ Y) : Off (c.to h k) a := ⟨o.own, o.ice, let ⟨x, e⟩ := aU.mp o.alive; kp _ x n e ▸ rfl⟩
theorem Go.adopt {X : List Addr} {a : Addr} {o : Obj} (g : Go X W c c₁) (ha : Off c₁ a) (ho : c₁.s.heap.get? a = some o) (hn : ¬ tJ c.φ c.σ a → c.s.heap.get? a = none) : Go X W c ⟨c₁.G.put a o, c₁.φ, c₁.σ, c₁.s⟩ := by
  have kG : Ak c₁.G (c₁.G.put a o) := Fz.put_le ha.ice
  have R := g.H
  refine ⟨⟨g.s, fun b x e => kG b x (g.g b x e), g.p, g.keep, g.alive, g.mine, fun b e => ?_⟩, ⟨let ⟨hb, T, q⟩ := R.base; ⟨hb, T, fun b x e => kG _ _ (q b x e)⟩, fun b x e => ?_, R.len, fun a b => (R.objs a b).keeps kG (fun _ _ e => e) fun _ _ => rfl, R.one, fun {b j} m => ⟨(Fz.put_ne fun q : b = a => ha.own ⟨j, q ▸ m⟩).trans (R.off m).1, (R.off m).2⟩⟩⟩
  · by_cases q : b = a
    · by_cases h : tJ c.φ c.σ b
      · exact .inr (.inl h)
      · exact .inr (.inr (q ▸ hn (q ▸ h)))
    · exact g.ice b ((Fz.put_ne q (G := c₁.G) (o := o)) ▸ e)
  · by_cases q : b = a
    · subst q; exact ho.trans ((Fz.put_self c₁.G b o).symm.trans e)
    · exact R.fz b x ((Fz.put_ne q).symm.trans e)
noncomputable abbrev lc4 (nx : List D → List MO → Prop) (acc : List D) (x : D) (σ : List MO) : Prop := nx (acc ++ [x]) σ
noncomputable abbrev lc5 (nx : List D → List MO → Prop) (acc : List D) (v : V) (σ : List MO) : Prop := zR v σ (lc4 nx acc)
noncomputable abbrev lc3 (f : EX) (ρ : List V) (nx : List D → List MO → Prop) (acc : List D) (c : Bool) (σ : List MO) : Prop := tT c (f ρ σ (lc5 nx acc)) (nx acc σ)
noncomputable abbrev lcQ (Q : VQ) (acc : List D) (σ : List MO) : Prop := Q (.d (.lst acc)) σ
noncomputable def lcP (t : TX) (f : EX) (cv : List V) (Q : VQ) : List D → List D → List MO → Prop
  | [] => lcQ Q
  | d :: r => fun acc σ => t (.d d :: cv) σ (lc3 f (.d d :: cv) (lcP t f cv Q r) acc)
noncomputable def lc2 (caps : List Nat) (t : TX) (f : EX) (ρ : List V) (Q : VQ) (d : D) (σ : List MO) : Prop := fB (jG d) fun ds => ds.length ≤ 16777216 ∧ lcP t f (ya caps ρ) Q ds [] σ
noncomputable abbrev lc1 (caps : List Nat) (t : TX) (f : EX) (ρ : List V) (Q : VQ) (v : V) (σ : List MO) : Prop := zR v σ (lc2 caps t f ρ Q)
noncomputable abbrev vE (caps : List Nat) (it : EX) (t : TX) (f : EX) : EX := fun ρ σ Q => it ρ σ (lc1 caps t f ρ Q)
theorem wC {a b x : Addr} (h : x ∉ [a, b]) : x ≠ a ∧ x ≠ b := ⟨fun e => h (e ▸ .head _), fun e => h (e ▸ .tail _ (.head _))⟩
theorem uI {elt iter : Expr} {ifs : List Expr} {scope : Scope} {pos' px : Pos} {x : Str} {caps : List Nat} {it f : EX} {t : TX} {Q : VQ} {use : Option (Value → Sem Unit)} {QQ : Value → Shared → Prop} (hk : md sc scope x) (hs : jU iter = true) (hc : l8 xs caps (dC scope.names))
    (hi : SemX W sc xs n iter it) (ht : uQ W (bN sc scope) (x :: dC scope.names) n ifs t) (hf : SemX W (bN sc scope) (x :: dC scope.names) n elt f) (F : Fr n sc env A) (R : RelF W env xs ρ c) (h : vE caps it t f ρ c.σ Q)
    (fin : ∀ C acc d c', Go [] W c c' → RelF W env xs ρ c' → Off c' C → C ∉ fa env → (¬ tJ c.φ c.σ C → c.s.heap.get? C = none) → (∃ m, c'.s.heap.Ns C m) → Rep c'.G d acc → Q (.d d) c'.σ → compPost W.M A eS use QQ acc C (.ok .next) c'.s) :
    wpAny W.M A (comprehension (.ListComp elt [⟨.Name x px, iter, ifs, 0⟩] scope pos) scope env pos' (newList []) false (eval iter env) use) QQ eS c.s := by
  obtain ⟨cl, hcl⟩ := cl_ok F.E hk
  refine wpAny_comprehension_free (g := ⟨.Name x px, iter, ifs, 0⟩) (gs := []) rfl (by induction iter using PySem.Expr.casesOn <;> first | (intro _; rfl) | cases hs) hcl.eq hk.kind hk.loc ?_
  refine hi.use F R h fun v c₀ y g₀ R₀ ry q => ?_
  obtain ⟨G', σ', d, g₁, rd, q⟩ := o8 R₀.H q ry
  obtain ⟨ds, hds, hz, h⟩ := bI q
  have g01 := g₀.trans g₁
  generalize hc₁ : (⟨G', c₀.φ, σ', c₀.s⟩ : Cf) = c₁ at g₁ g01
  obtain ⟨rfl, rfl, e₁⟩ : c₁.G = G' ∧ c₁.σ = σ' ∧ c₁.s = c₀.s := hc₁ ▸ ⟨rfl, rfl, rfl⟩
  rw [← e₁]
  have R₁ := R₀.go g₁
  refine yS hds R₁.H (fun o St hI st => ?_) rd
  obtain ⟨fp, P, Wk, hfp, hP⟩ := hI.walks A F.A.handled
  generalize eI : c₁.s.heap.objs.size = I at hI Wk hfp ⊢
  have Ifr : c₁.s.heap.get? I = none := eI ▸ b5 _
  have k2 := bC c₁.s.heap o
  have aI := hI.alive 0 _ st
  generalize c₁.s.heap.push o = h2 at k2 aI st ⊢
  refine wpAny_newList ?_ (aY _)
  have k3 := bC h2 { cls := .type "list", data := .seq ([] : List Value).toArray }
  have Lfr : h2.get? h2.objs.size = none := b5 _
  have Lat : (h2.push { cls := .type "list", data := .seq ([] : List Value).toArray }).get? h2.objs.size = some (listOf ([] : List Value).toArray 0) := Heap.get?_push_size _ rfl
  generalize eL : h2.objs.size = L at Lfr Lat ⊢
  generalize eh3 : h2.push { cls := .type "list", data := .seq ([] : List Value).toArray } = h3 at k3 Lat
  refine wpAny_newFunctionEnv (s := { c₁.s with heap := h3 }) hk.nocell (fun z hz => (bJ hz).elim) (fun h4 hns hsb => ?_) hk.kind
  have k4 : ∀ b o, h3.get? b = some o → h4.get? b = some o := fun b o e => hsb.extBut b o (cY (Heap.lt_size e)) (Heap.get?_push_of_some _ e)
  have Cfr : h3.get? h3.objs.size = none := b5 _
  generalize h3.objs.size = C at Cfr hns ⊢
  have kp : ∀ b o, c₁.s.heap.get? b = some o → h4.get? b = some o := fun b o e => k4 b o (k3 b o (k2 b o e))
  have nf : ∀ {a h}, (∀ b o, c₁.s.heap.get? b = some o → Heap.get? h b = some o) → Heap.get? h a = none → c₁.s.heap.get? a = none := fun {a h} k e => by
    cases q : c₁.s.heap.get? a with
    | none => rfl
    | some o' => cases (k a o' q).symm.trans e
  have Lfr1 := nf k2 Lfr
  have Cfr1 := nf (fun b o e => k3 b o (k2 b o e)) Cfr
  have IC : I ≠ C := fun e => by
    obtain ⟨o', a⟩ := aU.mp aI
    cases Cfr.symm.trans (e ▸ k3 _ _ a)
  have IL : I ≠ L := fun e => by rw [e, Lfr] at aI; cases aI
  have LC : L ≠ C := fun e => by cases Cfr.symm.trans (e ▸ Lat)
  let c₂ : Cf := c₁.to h4 c₁.s.toks
  have g₂ : Go [] W c₁ c₂ := R₁.H.more kp
  have off : ∀ {a}, c₁.s.heap.get? a = none → (h4.get? a).isSome → Off c₂ a := fun n al => ⟨(R₁.H.clean n).2, (R₁.H.clean n).1, al⟩
  have nfa : ∀ {a}, c₁.s.heap.get? a = none → a ∉ fa env := fun n m => by have := (R₁.off _ m).alive; rw [n] at this; cases this
  have At₂ : CompAt W env xs ρ I L C [] c₂ := ⟨R₁.go g₂, off Ifr (gi (fun b o e => k4 b o (k3 b o e)) aI), off Lfr1 (by rw [k4 _ _ Lat]; rfl), off Cfr1 (l6 hns), ⟨_, hns⟩, [], 0, k4 _ _ Lat, .nil⟩
  have hEc : EnvOk (bN sc scope) (compEnvC scope cl C env) := Bu F.E hk hcl fun z k hz e => by
    obtain ⟨u, iu⟩ := R₁.frm.cell z k hz
    have := oF iu
    rw [e, Cfr1] at this; cases this
  have Fc : Fr n (bN sc scope) (compEnvC scope cl C env) A := ⟨hEc, F.A⟩
  have new0 : ∀ {a}, c₁.s.heap.get? a = none → ¬ tJ c.φ c.σ a → c.s.heap.get? a = none := fun {a} n no => by
    cases e : c.s.heap.get? a with
    | none => rfl
    | some o => cases n.symm.trans (g01.keep a o nofun no e)
  have hY : ∀ {b}, b ∈ [I, L, C] → c₁.s.heap.get? b = none := fun m => by
    rcases bc.mp m with rfl | m
    · exact Ifr
    · rcases fO m with rfl | rfl
      · exact Lfr1
      · exact Cfr1
  have less : ∀ {c'}, Go [I, L, C] W c₂ c' → Go [] W c c' := fun g => g01.trans (Go.less (k := c₁.s.toks) kp g (fun b m => .inr (hY m)) fun b m => (bJ m).elim)
  have st₂ : St 0 h4 := Wk.frame _ _ _ st fun b hb o e => k4 b o (k3 b o e)
  show codeAny W.M A (.compStart (.ListComp elt [⟨.Name x px, iter, ifs, 0⟩] scope pos) 0 (.ref I) (.ref L) (compEnvC scope cl C env)) (compPost W.M A eS use QQ (.ref L) C) c₂.s
  have loop : codeAny W.M A (.compLoop (.ListComp elt [⟨.Name x px, iter, ifs, 0⟩] scope pos) 0 (.ref I) (.ref L) (compEnvC scope cl C env)) (compPost W.M A eS use QQ (.ref L) C) c₂.s := by
    refine codeAny_compLoop_tests (fun m s' => ∃ i c' acc, i ≤ ds.length ∧ m = ds.length - i ∧ c'.s = s' ∧ CompAt W env xs ρ I L C acc c' ∧ Go [I, L, C] W c₂ c' ∧ acc.length ≤ i ∧ St i c'.s.heap ∧ lcP t f (ya caps ρ) Q (ds.drop i) acc c'.σ)
      ?_ ds.length ⟨0, c₂, [], aY _, rfl, rfl, At₂, At₂.R.H.go, au 0, st₂, h⟩
    rintro m s' ⟨i, c', acc, hi, rfl, rfl, At, w', hal, st', h'⟩
    have wide : ∀ {c''}, Go [] W c' c'' → Go [I, L, C] W c' c'' := fun g => g.wide nofun fun b m => by
      rcases bc.mp m with rfl | m
      · exact At.oI.own
      · rcases fO m with rfl | rfl
        · exact At.oL.own
        · exact At.oC.own
    by_cases hlt : i < ds.length
    · rw [dP hlt] at h'
      refine Wk.item i c'.s _ _ hlt st' fun u h5 tk₅ hp st₅ k5 => ?_
      obtain ⟨m₅, hn₅⟩ := lM (fun o e => k5 C o (fun q => IC (am.mp q).symm) e) At.ns
      have hkx : (compEnvC scope cl C env).kindOf x = some .local := by
        show (relabel scope env).names.lookup x = _
        rw [lL F.E]; exact hk.tgt
      refine wpAny_assign_Name (wpAny_storeName_local (s := { c'.s with heap := h5, toks := tk₅ }) hkx (show h5.Ns (compEnvC scope cl C env).locals m₅ from hn₅) (fun h6 hn₆ hs₆ => ?_) (by rw [hEc.fn]; rfl))
      have k6 : ∀ b o, b ∉ [I, C] → c'.s.heap.get? b = some o → h6.get? b = some o := fun b o nb e => hs₆.extBut b o (wC nb).2 (k5 b o (fun q => (wC nb).1 (am.mp q)) e)
      have alI : (h6.get? I).isSome := let ⟨o', q⟩ := aU.mp (hI.alive _ _ st₅); hs₆.extBut _ _ IC q ▸ rfl
      have hb : ∀ b ∈ [I, C], Off c' b ∧ b ∉ fa env := fun b m => by
        rcases fO m with rfl | rfl
        · exact ⟨At.oI, nfa Ifr⟩
        · exact ⟨At.oC, nfa Cfr1⟩
      have nL : L ∉ [I, C] := fun m => (fO m).elim (fun e => IL e.symm) LC
      let c₆ : Cf := c'.to h6 (tk₅ + 1)
      have g₆ : Go [I, L, C] W c' c₆ := (At.R.H.goBut (k := tk₅ + 1) [I, C] (fun a m => ⟨(hb a m).1.own, (hb a m).1.ice⟩) k6 fun b m => (fO m).elim (fun e => e ▸ alI) fun e => e ▸ l6 hn₆).wide (fun b m => (fO m).elim (fun e => e ▸ .head _) fun e => e ▸ .tail _ (.tail _ (.head _))) fun b m => by
        rcases bc.mp m with rfl | m
        · exact At.oI.own
        · rcases fO m with rfl | rfl
          · exact At.oL.own
          · exact At.oC.own
      have At₆ : CompAt W env xs ρ I L C acc c₆ := ⟨At.R.but hb k6, ⟨At.oI.own, At.oI.ice, alI⟩, At.oL.but k6 nL, ⟨At.oC.own, At.oC.ice, l6 hn₆⟩, ⟨_, hn₆⟩, let ⟨vs, n, e, r⟩ := At.lst; ⟨vs, n, k6 L _ nL e, r⟩⟩
      have st₆ : St (i + 1) h6 := Wk.frame _ _ _ st₅ fun b hb' o e => by
        refine hs₆.extBut b o (fun q => ?_) e
        rcases hfp b hb' with z | z
        · exact IC (z.symm.trans q)
        · have q : b = C := q
          obtain ⟨o', z⟩ := aU.mp z
          cases At.oC.ice.symm.trans (q ▸ w'.g _ _ z)
      have ru : Rep c'.G ds[i] u := (hP i u _ hp (aO hlt)).mono w'.g
      have Rc := Bt (c := c₆) F.E hk hcl hc At₆.R At₆.oC hn₆ (if_pos rfl) ru
      have frame : ∀ {c'' : Cf}, Go [] W c₆ c'' → St (i + 1) c''.s.heap := fun {c''} g => Wk.frame _ _ _ st₆ fun b hb' o e => by
        rcases hfp b hb' with z | z
        · subst z; exact g.keep _ _ nofun At.oI.own e
        · obtain ⟨o', z⟩ := aU.mp z
          have z := w'.g _ _ z
          cases (At₆.R.H.fz _ _ z).symm.trans e
          exact g.H.fz _ _ (g.g _ _ z)
      refine wpAny_mono (ht.run Fc Rc h').run (fun b s₇ p => ?_) fun _ _ z => z.elim
      induction p using Post.casesOn with | @mk c₇ g₇ q =>
      have Rc₇ := Rc.go g₇
      have w7 := (w'.trans g₆).trans (g₇.wide (Y := [I, L, C]) nofun fun b m => by
        rcases bc.mp m with rfl | m
        · exact At.oI.own
        · rcases fO m with rfl | rfl
          · exact At.oL.own
          · exact At.oC.own)
      have dec : ds.length - (i + 1) < ds.length - i := pQ hlt (bw _)
      induction b using Bool.casesOn with
      | false => exact ⟨ds.length - (i + 1), dec, i + 1, c₇, acc, hlt, rfl, rfl, At₆.go g₇, w7, bg hal, frame g₇, zY q⟩
      | true =>
        refine wpAny_mono (hf.run Fc Rc₇ (zX q)).run (fun v₈ s₈ p => ?_) fun _ _ z => z.elim
        induction p using Post.casesOn with | @mk c₈ g₈ z =>
        induction z using Val.casesOn with | mk r₈ q =>
        obtain ⟨G₉, σ₉, d₉, g₉, rd₉, q⟩ := o8 g₈.H q r₈
        have g79 := (g₇.trans g₈).trans g₉
        have At₉ := At₆.go g79
        have st₉ := frame g79
        have w9 := w7.trans ((g₈.trans g₉).wide (Y := [I, L, C]) nofun fun b m => by
          have A7 := At₆.go g₇
          rcases bc.mp m with rfl | m
          · exact A7.oI.own
          · rcases fO m with rfl | rfl
            · exact A7.oL.own
            · exact A7.oC.own)
        obtain ⟨vs, k, eL', rl⟩ := At₉.lst
        have hsz : vs.toArray.size ≤ sizeLine := by rw [dO rl.length, sv]; exact ab hal (ab hi hz)
        refine append_at (hsz := hsz) eL' fun h' hs' ho' => ?_
        rw [qS] at ho'
        have kL : ∀ b o, b ∉ [L] → c₈.s.heap.get? b = some o → h'.get? b = some o := fun b o nb e => hs'.extBut b o (fun q => nb (q ▸ .head _)) e
        have hb9 : ∀ b ∈ [L], Off (⟨G₉, c₈.φ, σ₉, c₈.s⟩ : Cf) b ∧ b ∉ fa env := fun b m => am.mp m ▸ ⟨At₉.oL, nfa Lfr1⟩
        have g10 := (At₉.R.H.goBut (k := c₈.s.toks) [L] (fun a m => ⟨(hb9 a m).1.own, (hb9 a m).1.ice⟩) kL fun b m => am.mp m ▸ (by rw [ho']; rfl)).wide (Y := [I, L, C]) (fun b m => am.mp m ▸ .tail _ (.head _)) fun b m => by
          rcases bc.mp m with rfl | m
          · exact At₉.oI.own
          · rcases fO m with rfl | rfl
            · exact At₉.oL.own
            · exact At₉.oC.own
        have nI : I ∉ [L] := fun m => IL (am.mp m)
        have nC : C ∉ [L] := fun m => LC (am.mp m).symm
        exact ⟨ds.length - (i + 1), dec, i + 1, (⟨G₉, c₈.φ, σ₉, c₈.s⟩ : Cf).to h' c₈.s.toks, acc ++ [d₉], hlt, rfl, rfl, ⟨At₉.R.but hb9 kL, At₉.oI.but kL nI, ⟨At₉.oL.own, At₉.oL.ice, by show (h'.get? L).isSome = true; rw [ho']; rfl⟩, At₉.oC.but kL nC, lM (fun o e => kL C o nC e) At₉.ns, _, _, ho', rl.append (.cons rd₉ .nil)⟩, w9.trans g10, by rw [ac]; exact aj hal, Wk.frame _ _ _ st₉ fun b hb' o e => kL b o (fun m => by
          have m : b = L := am.mp m
          rcases hfp b hb' with z | z
          · exact IL (z.symm.trans m)
          · obtain ⟨o', z⟩ := aU.mp z
            cases At.oL.ice.symm.trans (m ▸ w'.g _ _ z)) e, q⟩
    · obtain rfl : i = ds.length := bE hi (a7.mp hlt)
      rw [il] at h'
      refine Wk.done c'.s _ _ st' fun h5 tk₅ k5 => ?_
      obtain ⟨vs, k, eL', rl⟩ := At.lst
      have nC : C ∉ [I] := fun m => IC (am.mp m).symm
      have nL : L ∉ [I] := fun m => IL (am.mp m).symm
      have hI' : ∀ b ∈ [I], Off c' b ∧ b ∉ fa env := fun b m => am.mp m ▸ ⟨At.oI, nfa Ifr⟩
      have g5 := (less w').butNew (k := tk₅) (Y := [I]) (fun b m => am.mp m ▸ ⟨At.oI, nofun, new0 Ifr⟩) k5
      have oL5 : Off (c'.to h5 tk₅) L := At.oL.but k5 nL
      have oC5 : Off (c'.to h5 tk₅) C := At.oC.but k5 nC
      have g6 := g5.adopt oL5 (k5 L _ nL eL') (new0 Lfr1)
      have R5 : RelF W env xs ρ (c'.to h5 tk₅) := At.R.but (Y := [I]) hI' k5
      have kG : Ak c'.G (c'.G.put L (listOf vs.toArray k)) := Fz.put_le At.oL.ice
      refine fin C (.ref L) (.lst acc) ⟨c'.G.put L (listOf vs.toArray k), c'.φ, c'.σ, (c'.to h5 tk₅).s⟩ g6 ⟨g6.H, R5.frm, fun a m => ⟨(R5.off a m).own, (Fz.put_ne fun q : a = L => nfa Lfr1 (q ▸ m)).trans (R5.off a m).ice, (R5.off a m).alive⟩, fun i z hz nz => ?_⟩ ⟨oC5.own, (Fz.put_ne (Ne.symm LC)).trans oC5.ice, oC5.alive⟩ (nfa Cfr1) (new0 Cfr1) (lM (fun o e => k5 C o nC e) At.ns) (.lst (Fz.put_self _ _ _) (ab hal hz) (rl.imp fun _ _ => Rep.mono kG)) h'
      obtain ⟨u, a, b⟩ := R5.vars i z hz nz
      exact ⟨u, a, b.mono kG fun _ _ e => e⟩
  exact codeAny_compStart_list loop (Wk.self 0 _ _ _ st₂ loop)
end
section
variable {W : Wd} {sc : Scope} {n : Nat} {xs : List Str} {env : Env} {A : Around} {ρ : List V} {c c₁ : Cf} {pos : Pos}
theorem sD {C : Addr} {h h' : Heap} (hs : Heap.SameBut C h h') : ∀ b o, b ∉ [C] → h.get? b = some o → h'.get? b = some o := fun b o nb e => hs.extBut b o (fun q => nb (q ▸ .head _)) e
theorem lc_ok {elt iter : Expr} {ifs : List Expr} {scope : Scope} {px : Pos} {x : Str} {caps : List Nat} {it f : EX} {t : TX} (hk : md sc scope x) (hs : jU iter = true) (hc : l8 xs caps (dC scope.names))
    (hi : SemX W sc xs n iter it) (ht : uQ W (bN sc scope) (x :: dC scope.names) n ifs t) (hf : SemX W (bN sc scope) (x :: dC scope.names) n elt f) : SemX W sc xs n (.ListComp elt [⟨.Name x px, iter, ifs, 0⟩] scope pos) (vE caps it t f) := ⟨fun F R h => ⟨by
  rw [eval_ListComp]
  refine uI (use := none) hk hs hc hi ht hf F R h fun C acc d c' g R' oC Cfa new ns rd q => ?_
  obtain ⟨m, hm⟩ := ns
  exact ⟨m, hm, fun h' hs' => .mk (g.butNew (k := c'.s.toks) (Y := [C]) (fun b m => am.mp m ▸ ⟨oC, nofun, new⟩) (sD hs')) (.mk (.d rd) q)⟩⟩⟩
noncomputable def xy (sc scope : Scope) (y : Str) (py pos : Pos) : Bool :=
  sc.kind == .function && sc.names.lookup y == some .local && py.line == pos.line && !(scope.names.any fun p => p.1 == y && (p.2 == .local || p.2 == .cell))
theorem zw (hE : EnvOk sc env) {elt : Expr} {gens : List Comprehension} {scope : Scope} {py : Pos} {y : Str} {l : Nat} (h : xy sc scope y py pos = true) : swapsWith (.ListComp elt gens scope pos) (some (.Name y py)) l env = pure true := by
  have e : swapsWith (.ListComp elt gens scope pos) (some (.Name y py)) l env = pure (env.blockKind == .function && env.kindOf y == some .local && py.line == pos.line && !(scope.names.any fun p => p.1 == y && (p.2 == .local || p.2 == .cell))) := rfl
  rw [e, hE.kindOf, show env.blockKind = sc.kind from ?_]
  · exact congrArg _ h
  · unfold Env.blockKind; rw [hE.scope, hE.kind]; rfl
theorem aslc_ok {elt iter : Expr} {ifs : List Expr} {scope : Scope} {px py spos : Pos} {x y : Str} {i : Nat} {caps : List Nat} {it f : EX} {t : TX} (VX : rC sc xs) (hy : xs[i]? = some y) (hw : xy sc scope y py pos = true) (hk : md sc scope x) (hs : jU iter = true) (hc : l8 xs caps (dC scope.names))
    (hi : SemX W sc xs n iter it) (ht : uQ W (bN sc scope) (x :: dC scope.names) n ifs t) (hf : SemX W (bN sc scope) (x :: dC scope.names) n elt f) : SemS W sc xs n (exec (.Assign [.Name y py] (.ListComp elt [⟨.Name x px, iter, ifs, 0⟩] scope pos) spos)) (dN i (vE caps it t f)) := ⟨fun {ρ Q env A c} F R h => ⟨by
  rw [exec_Assign_Name_used _ _ _ _ (zw F.E hw)]
  refine wpAny_bind (wpAny_standAt (wpAny_bind ?_))
  show wpAny _ A (do let _ ← comprehension (.ListComp elt [⟨.Name x px, iter, ifs, 0⟩] scope pos) scope env _ (newList []) false (eval iter env) (some (assign (.Name y py) env))) _ _ c.s
  refine wpAny_bind (wpAny_mono (uI (use := some (assign (.Name y py) env)) (QQ := fun _ s' => Post (fa env) W c (FlPost W env xs Q) .next s') hk hs hc hi ht hf F R h fun C acc d c' g R' oC Cfa new ns rd q => ?_) (fun _ s' p => wpAny_pure (wpAny_pure p)) fun _ _ z => z)
  show wpAny W.M A (assign (.Name y py) env acc) _ eS c'.s
  refine wpAny_assign_Name (lI F.E VX R' hy (.d rd) fun c₂ g₂ R₂ _ _ eσ => ?_)
  obtain ⟨m, hm⟩ := lM (fun o e => g₂.keep _ _ Cfa oC.own e) ns
  have oC := oC.go g₂
  exact ⟨m, hm, fun h' hs' => db (((g.fr R).trans g₂).butNew (k := c₂.s.toks) (Y := [C]) (fun b m => am.mp m ▸ ⟨oC, Cfa, new⟩) (sD hs')) (R₂.but (Y := [C]) (fun b m => am.mp m ▸ ⟨oC, Cfa⟩) (sD hs')) .next (show Q .next (kV i (.d d) ρ) c₂.σ from eσ ▸ q)⟩⟩⟩
noncomputable def wt : Int → Option Int := fun k => if k = 0 then some 0 else none
noncomputable abbrev eD00 : EX := fun _ σ Q => Q (.hd σ.length) (σ ++ [.imap wt 1])
theorem d00_ok {u u' : Nat} {p q : Pos} : SemX W sc xs n (.Dict [some (.Constant (.int 0) u p)] [.Constant (.int 0) u' q] pos) eD00 := ⟨fun {ρ Q env A c} F R h => ⟨by
  refine wpAny_Dict_walk (knd := intKind W.prog W.w) rfl rfl (by simp) (by simp) ?_
  refine pairTrees_cons_walk (wpAny_Constant_int (wpAny_Constant_int (pairTrees_nil_walk ?_)))
  refine ⟨[(0, .int 0 (c.s.toks + 1))], ⟨intKind_is _ _ 0 c.s.toks, rfl, trivial⟩, Heap.DictOf.new c.s.heap, fun h' hd hs => ?_⟩
  have kp : ∀ b o, c.s.heap.get? b = some o → h'.get? b = some o := fun b o e => hs.extBut b o (cY (Heap.lt_size e)) (Heap.get?_push_of_some _ e)
  have al : (h'.get? c.s.heap.objs.size).isSome := by obtain ⟨o, _, _, ho, _⟩ := hd; rw [ho]; rfl
  show Post [] W c (Val Q) _ _
  refine .mk (R.H.new (k := c.s.toks + 1 + 1 + 1) (p := (c.s.heap.objs.size, c.s.heap.objs.size)) (mo := .imap wt 1) kp (fun b o => by cases o; exact ⟨b5 _, al⟩) (.imap hd.mapOf (fun k => ?_) fun o es ep ho hdat => ?_)) (Val.mk (.hd (p := (c.s.heap.objs.size, c.s.heap.objs.size)) (by rw [← R.H.len]; exact jP)) h)
  · by_cases hk : k = 0
    · subst hk; exact .some ⟨_⟩
    · show OptAt (wt k) ((List.find? (fun kv => decide (kv.1 = k)) [((0 : Int), Value.int 0 (c.s.toks + 1))]).map (·.2))
      rw [show wt k = none from if_neg hk, dj, decide_eq_false (Ne.symm hk)]
      exact .none
  · obtain ⟨o', es', ep', ho', _, hdat', _, hp', _⟩ := hd
    cases ho.symm.trans ho'
    cases hdat.symm.trans hdat'
    exact aW hp'.length⟩⟩
inductive PickR (s : String) : List String → List V → V → Prop
  | here {ks v vs} : PickR s (s :: ks) (v :: vs) v
  | there {k ks u vs v} (n : k ≠ s) (h : PickR s ks vs v) : PickR s (k :: ks) (u :: vs) v
noncomputable def d4p (ks : List String) (Q : VQ) (vs : List V) (j : V) (σ : List MO) : Prop := fB (BN j) fun s => ∃ v, PickR s ks vs v ∧ Q v σ
theorem d4p_of {ks : List String} {Q : VQ} {vs : List V} {s : String} {v : V} {σ : List MO} (h : PickR s ks vs v) (q : Q v σ) : d4p ks Q vs (.d (.str s)) σ := ⟨v, h, q⟩
noncomputable abbrev d4K (ks : List String) (y : EX) (ρ : List V) (Q : VQ) (vs : List V) (σ : List MO) : Prop := y ρ σ (d4p ks Q vs)
noncomputable abbrev eD4 (ks : List String) (l : LX) (y : EX) : EX := fun ρ σ Q => l ρ σ (d4K ks y ρ Q)
theorem PickR.at_ {s : String} {ks : List String} {vs : List V} {v : V} (h : PickR s ks vs v) : ∀ us, All2 (RepV c.G c.φ) vs us → ∃ u, valueAt ((ks.map aa).zip us) (aa s) = some u ∧ RepV c.G c.φ v u := by
  induction h with
  | here => exact fun us r => r.un fun u us a _ => ⟨u, by unfold valueAt; rw [cG, Aj, dj, decide_eq_true rfl]; rfl, a⟩
  | there n _ ih =>
    refine fun us r => r.un fun u us _ b => ?_
    obtain ⟨w, e, r⟩ := ih us b
    exact ⟨w, by unfold valueAt at e ⊢; rw [cG, Aj, dj, decide_eq_false fun e => n (ko e)]; exact e, r⟩
theorem merged4 {a b c d : Str} {va vb vc vd : Value} (h1 : a ≠ b) (h2 : a ≠ c) (h3 : a ≠ d) (h4 : b ≠ c) (h5 : b ≠ d) (h6 : c ≠ d) : merged [] [(a, va), (b, vb), (c, vc), (d, vd)] = [(a, va), (b, vb), (c, vc), (d, vd)] := by
  simp [merged, stored, h1, h2, h3, h4, h5, h6]
theorem d4_ok {k1 k2 k3 k4 : String} {e1 e2 e3 e4 i : Expr} {x1 x2 x3 x4 y : EX} {u1 u2 u3 u4 : Nat} {p1 p2 p3 p4 dp : Pos} (d1 : k1 ≠ k2) (d2 : k1 ≠ k3) (d3 : k1 ≠ k4) (d4 : k2 ≠ k3) (d5 : k2 ≠ k4) (d6 : k3 ≠ k4)
    (h1 : SemX W sc xs n e1 x1) (h2 : SemX W sc xs n e2 x2) (h3 : SemX W sc xs n e3 x3) (h4 : SemX W sc xs n e4 x4) (hi : SemX W sc xs n i y) (hs : ∀ o j, ∃ l, subscripted i false o j = operate l (getItem o j)) :
    SemX W sc xs n (.Subscript (.Dict [some (.Constant (.str (aa k1)) u1 p1), some (.Constant (.str (aa k2)) u2 p2), some (.Constant (.str (aa k3)) u3 p3), some (.Constant (.str (aa k4)) u4 p4)] [e1, e2, e3, e4] dp) i pos) (eD4 [k1, k2, k3, k4] (ae x1 (ae x2 (ae x3 (ae x4 ak)))) y) := ⟨fun {ρ Q env A c} F R h => ⟨by
  rw [arm_eval_Subscript]
  refine wpAny_bind ?_
  refine wpAny_Dict_walk (knd := strKind W.prog W.w) rfl rfl (by simp) (by simp) ?_
  have kp := bC c.s.heap ({ cls := .type "dict", data := .dict #[] } : Obj)
  have g0 : Go [] W c (c.to (c.s.heap.push { cls := .type "dict", data := .dict #[] }) c.s.toks) := R.H.more kp
  have Ifr := b5 c.s.heap
  have DO : (c.s.heap.push { cls := .type "dict", data := .dict #[] }).DictOf (strKind W.prog W.w) c.s.heap.objs.size [] := Heap.DictOf.new c.s.heap
  have al : ((c.s.heap.push { cls := .type "dict", data := .dict #[] }).get? c.s.heap.objs.size).isSome := by obtain ⟨o, _, _, ho, _⟩ := DO; rw [ho]; rfl
  have IO : Off (c.to (c.s.heap.push { cls := .type "dict", data := .dict #[] }) c.s.toks) c.s.heap.objs.size := ⟨(R.H.clean Ifr).2, (R.H.clean Ifr).1, al⟩
  have Ifa : c.s.heap.objs.size ∉ fa env := fun m => by have := (R.off _ m).alive; rw [Ifr] at this; cases this
  generalize c.s.heap.objs.size = I at Ifr DO IO Ifa ⊢
  generalize hc0 : c.to (c.s.heap.push { cls := .type "dict", data := .dict #[] }) c.s.toks = c0 at g0 IO
  obtain ⟨e0, eσ⟩ : c0.s = { c.s with heap := c.s.heap.push { cls := .type "dict", data := .dict #[] } } ∧ c0.σ = c.σ := hc0 ▸ ⟨rfl, rfl⟩
  have R0 := R.go g0
  have DO : c0.s.heap.DictOf (strKind W.prog W.w) I [] := by rw [e0]; exact DO
  rw [← e0]
  rw [← eσ] at h
  refine pairTrees_cons_walk (wpAny_Constant_str ?_)
  have t0 := R0.H.tick (X := []) (c0.s.toks + 1)
  refine h1.use (c := c0.to c0.s.heap (c0.s.toks + 1)) F (R0.go t0) h fun v1 c1 y1 g1 R1 r1 h => ?_
  refine pairTrees_cons_walk (wpAny_Constant_str ?_)
  have t1 := R1.H.tick (X := []) (c1.s.toks + 1)
  refine h2.use (c := c1.to c1.s.heap (c1.s.toks + 1)) F (R1.go t1) h fun v2 c2 y2 g2 R2 r2 h => ?_
  refine pairTrees_cons_walk (wpAny_Constant_str ?_)
  have t2 := R2.H.tick (X := []) (c2.s.toks + 1)
  refine h3.use (c := c2.to c2.s.heap (c2.s.toks + 1)) F (R2.go t2) h fun v3 c3 y3 g3 R3 r3 h => ?_
  refine pairTrees_cons_walk (wpAny_Constant_str ?_)
  have t3 := R3.H.tick (X := []) (c3.s.toks + 1)
  refine h4.use (c := c3.to c3.s.heap (c3.s.toks + 1)) F (R3.go t3) h fun v4 c4 y4 g4 R4 r4 h => ?_
  refine pairTrees_nil_walk ?_
  have g24 := (t1.trans g2).trans ((t2.trans g3).trans (t3.trans g4))
  have g04 := (t0.trans g1).trans g24
  have IO4 := IO.go g04
  refine ⟨[(aa k1, v1), (aa k2, v2), (aa k3, v3), (aa k4, v4)], ⟨strKind_is _ _ _ _, rfl, strKind_is _ _ _ _, rfl, strKind_is _ _ _ _, rfl, strKind_is _ _ _ _, rfl, trivial⟩, DO.at fun o e => g04.keep I o nofun IO.own e, fun h' hd hs' => ?_⟩
  have ne : ∀ {x y : String}, x ≠ y → aa x ≠ aa y := fun h e => h (ko e)
  rw [merged4 (ne d1) (ne d2) (ne d3) (ne d4) (ne d5) (ne d6)] at hd
  have new : ¬ tJ c.φ c.σ I → c.s.heap.get? I = none := fun _ => Ifr
  have g5 := (g0.trans g04).butNew (k := c4.s.toks + 4) (Y := [I]) (fun b m => am.mp m ▸ ⟨IO4, nofun, new⟩) (sD hs')
  have R5 : RelF W env xs ρ (c4.to h' (c4.s.toks + 4)) := R4.but (Y := [I]) (fun b m => am.mp m ▸ ⟨IO4, Ifa⟩) (sD hs')
  have al5 : (h'.get? I).isSome := by obtain ⟨o, _, _, ho, _⟩ := hd; rw [ho]; rfl
  refine wpAny_bind (wpAny_holding ?_)
  refine hi.use (c := c4.to h' (c4.s.toks + 4)) F R5 h fun j c6 z g6 R6 rz q => ?_
  obtain ⟨s, es, v, pk, q'⟩ := bI q
  have hd6 : c6.s.heap.DictOf (strKind W.prog W.w) I [(aa k1, v1), (aa k2, v2), (aa k3, v3), (aa k4, v4)] := hd.at fun o e => g6.keep I o nofun IO4.own e
  have rs : All2 (RepV c6.G c6.φ) [y1, y2, y3, y4] [v1, v2, v3, v4] := by
    have m4 := g6.g
    have p4 := g6.p
    exact .cons ((r1.mono g24.g g24.p).mono m4 p4) (.cons ((r2.mono ((t2.trans g3).trans (t3.trans g4)).g ((t2.trans g3).trans (t3.trans g4)).p).mono m4 p4) (.cons ((r3.mono (t3.trans g4).g (t3.trans g4).p).mono m4 p4) (.cons (r4.mono m4 p4) .nil)))
  obtain ⟨u, hu, ru⟩ := pk.at_ (c := c6) _ rs
  cases w8 es
  revert q'
  refine rz.str fun tj q' => ?_
  refine wpAny_bind (wpAny_standAt ?_)
  exact sk ⟨_, _, hd6.typeIs, PySem.slot_dict_getitem.lookup⟩ (wpAny_getItem_of (strKind_is _ _ _ _) hd6.mapOf hu (AK ((g5.trans g6).trans (R6.H.tick (c6.s.toks + 1))) ru q')) (hs _ _)⟩⟩
end
set_option backward.match.sparseCases false
structure yo where
  glob : List (Str × D)
  call : List (Str × Cal)
  fld : List (Str × List (Nat × Nat))
  mth : List (Str × List (Nat × Nat))
  sts : List (Str × String)
noncomputable def TabAll {α : Type} (P : Str → α → Prop) : List (Str × α) → Prop
  | [] => True
  | (x, a) :: r => P x a ∧ TabAll P r
theorem TabAll.at_ {α : Type} {P : Str → α → Prop} {x : Str} {a : α} : ∀ {l : List (Str × α)}, TabAll P l → l.lookup x = some a → P x a
  | (y, b) :: r, h, e => by
    rw [fL] at e
    cases q : x == y with
    | true => rw [q] at e; cases e; exact eq_of_beq q ▸ h.1
    | false => rw [q] at e; exact TabAll.at_ h.2 e
structure xe (W : Wd) (T : yo) : Prop where
  glob : TabAll (GlobD W) T.glob
  call : TabAll (fun x k => CalOk W x k.val) T.call
  fld : TabAll (FldOk W.K) T.fld
  mth : TabAll (zm W.K) T.mth
  sts : TabAll (fun s x => s = aa x) T.sts
noncomputable def wI (x : Str) : List Str → Option Nat
  | [] => none
  | y :: r => match x == y with | true => some 0 | false => (wI x r).map (· + 1)
theorem kt {x : Str} : ∀ {l : List Str} {i : Nat}, wI x l = some i → l[i]? = some x
  | y :: r, i, h => by
    unfold wI at h
    split at h
    · rename_i e; cases h; exact congrArg some (eq_of_beq e).symm
    · obtain ⟨j, h', rfl⟩ := bo.mp h; exact kt (l := r) h'
noncomputable def Bg (xs : List Str) : List Str → Option (List Nat)
  | [] => some []
  | y :: r => (wI y xs).bind fun i => (Bg xs r).map (i :: ·)
theorem rY {xs : List Str} : ∀ {l : List Str} {is : List Nat}, Bg xs l = some is → l8 xs is l
  | [], is, h => by cases h; exact .nil
  | y :: r, is, h => by
    obtain ⟨i, h1, h⟩ := b7.mp h
    obtain ⟨j, h', rfl⟩ := bo.mp h
    exact .cons (kt h1) (rY h')
noncomputable def jY {α : Type} (o : Option α) (F : α → EX) : EX := match o with | some a => F a | none => bad
noncomputable def qm (b : Bool) (x : EX) : EX := match b with | true => x | false => bad
noncomputable def qO {α : Type} (o : Option α) (F : α → SX) : SX := match o with | some a => F a | none => kW
noncomputable def o7 (b : Bool) (x : SX) : SX := match b with | true => x | false => kW
noncomputable def rP (e : Expr) : Bool := !rH e.ctorIdx 26
noncomputable def unC : Expr → Option Const | .Constant c _ _ => some c | _ => none
noncomputable def unN : Expr → Option Str | .Name x _ => some x | _ => none
noncomputable def unL : Expr → Option (Expr × List Comprehension × Scope × Pos) | .ListComp e g s p => some (e, g, s, p) | _ => none
noncomputable def unT : Expr → Option (List Expr) | .Tuple es _ _ => some es | _ => none
noncomputable def isStr : Const → Bool | .str _ => true | _ => false
noncomputable def isZ : Const → Bool | .int i => decide (i = 0) | _ => false
noncomputable def Bc (e : Expr) : Bool := ((unC e).map isStr).getD false
theorem xu {e : Expr} {c : Const} (h : unC e = some c) : ∃ u p, e = .Constant c u p := by induction e using PySem.Expr.casesOn <;> first | exact ⟨_, _, congrArg (Expr.Constant · _ _) (cm.inj h)⟩ | exact bm h
theorem unN_of {e : Expr} {x : Str} (h : unN e = some x) : ∃ p, e = .Name x p := by induction e using PySem.Expr.casesOn <;> first | exact ⟨_, congrArg (Expr.Name · _) (cm.inj h)⟩ | exact bm h
theorem unL_of {e : Expr} {a : Expr × List Comprehension × Scope × Pos} (h : unL e = some a) : e = .ListComp a.1 a.2.1 a.2.2.1 a.2.2.2 := by induction e using PySem.Expr.casesOn <;> first | exact congrArg (fun a => Expr.ListComp a.1 a.2.1 a.2.2.1 a.2.2.2) (cm.inj h) | exact bm h
theorem unT_of {e : Expr} {es : List Expr} (h : unT e = some es) : ∃ u p, e = .Tuple es u p := by induction e using PySem.Expr.casesOn <;> first | exact ⟨_, _, congrArg (Expr.Tuple · _ _) (cm.inj h)⟩ | exact bm h
theorem Ba {c : Const} (h : isZ c = true) : c = .int 0 := by induction c using PySem.Const.casesOn <;> first | exact congrArg _ (of_decide_eq_true h) | cases h
noncomputable def AP {α : Type} : List α → Option α
  | [] => none
  | a :: r => match r with | [] => some a | _ :: _ => none
theorem vj {α : Type} {l : List α} {a : α} (h : AP l = some a) : l = [a] := by
  induction l using List.casesOn with
  | nil => exact bm h
  | cons b r => induction r using List.casesOn with
    | nil => exact congrArg (fun x => [x]) (cm.inj h)
    | cons c r => exact bm h
noncomputable def Bl {α : Type} : List α → Option (α × α × α × α)
  | [] => none
  | a :: r => match r with
    | [] => none
    | b :: r => match r with
      | [] => none
      | c :: r => (AP r).map fun d => (a, b, c, d)
theorem yW {α : Type} {l : List α} {x : α × α × α × α} (h : Bl l = some x) : l = [x.1, x.2.1, x.2.2.1, x.2.2.2] := by
  induction l using List.casesOn with
  | nil => exact bm h
  | cons a l => induction l using List.casesOn with
    | nil => exact bm h
    | cons b l => induction l using List.casesOn with
      | nil => exact bm h
      | cons c l =>
        obtain ⟨d, hd, rfl⟩ := bo.mp h
        rw [vj hd]
noncomputable def bmT : List (Str × B) := [(aa "append", .append), (aa "extend", .extend), (aa "pop", .pop), (aa "find", .find), (aa "endswith", .endswith), (aa "join", .joinB)]
noncomputable def bmTs : List (Str × B) := [(aa "join", .joinS)]
noncomputable def cEs (f : Expr → EX) : List Expr → LX
  | [] => ak
  | e :: r => ae (f e) (cEs f r)
noncomputable def cO (f : Expr → EX) : Option Expr → OX
  | none => gz
  | some e => bT (f e)
noncomputable def BA (f : Expr → EX) (l : Expr) (ops : List CmpOp) (rs : List Expr) : TX := match ops with
  | [op] => (match rs with
    | [r] => (match jU r with | true => bd op (f l) (f r) | false => tY)
    | _ => tY)
  | _ => tY
noncomputable def cT (f : Expr → EX) : Nat → Expr → TX
  | 0, _ => tY
  | k + 1, e => match e with
    | .BoolOp op es _ => (match op with
      | .And => (match es with | [] => dh | x :: r => du (cT f k x) (cT f k (.BoolOp .And r ⟨0, 0, 0, 0⟩)))
      | .Or => (match es with | [] => iw | x :: r => tL (cT f k x) (cT f k (.BoolOp .Or r ⟨0, 0, 0, 0⟩))))
    | .UnaryOp op x _ => (match op with | .Not => xx (cT f k x) | _ => tY)
    | .Compare l ops rs _ => BA f l ops rs
    | .IfExp .. => tY
    | e => tE (f e)
noncomputable def cTs (f : Expr → EX) (k : Nat) (ifs : List Expr) : TX := match ifs with
  | [] => dh
  | [c] => cT f k c
  | _ => tY
noncomputable def cC (T : yo) (c : Const) : EX := match c with
  | .none => eC .none
  | .bool b => eC (.bool b)
  | .int i => eC (.int i)
  | .str s => jY (T.sts.lookup s) fun x => eC (.str x)
  | .bytes b => qm (uR b.length 1000) (eC (.bytes b))
  | _ => bad
noncomputable def cN (T : yo) (sc : Scope) (xs : List Str) (x : Str) : EX := match wI x xs with
  | some i => eV i
  | none => jY (T.glob.lookup x) fun d => qm (sc.names.lookup x == some .globalImplicit) (eC d)
noncomputable def few (es : List Expr) : Bool := es.all lF && uR es.length 1000
noncomputable def cD (ks : List (Option Expr)) (vs : List Expr) : EX := match ks with
  | [] => (match vs with | [] => eNew | _ :: _ => bad)
  | _ :: _ => jY (AP ks) fun k => jY k fun k => jY (AP vs) fun v => jY (unC k) fun a => jY (unC v) fun b => qm (isZ a && isZ b) eD00
noncomputable def cStr (T : yo) : Const → Option String | .str s => T.sts.lookup s | _ => none
noncomputable def A5 (T : yo) (o : Option Expr) : Option String := o.bind fun e => (unC e).bind (cStr T)
noncomputable def diff4 (a b c d : String) : Bool := !(decide (a = b) || decide (a = c) || decide (a = d) || decide (b = c) || decide (b = d) || decide (c = d))
noncomputable def cD4 (T : yo) (f : Expr → EX) (ks : List (Option Expr)) (vs : List Expr) (y : EX) : EX := jY (Bl ks) fun k => jY (Bl vs) fun e =>
  jY (A5 T k.1) fun a => jY (A5 T k.2.1) fun b => jY (A5 T k.2.2.1) fun c => jY (A5 T k.2.2.2) fun d => qm (diff4 a b c d) (eD4 [a, b, c, d] (ae (f e.1) (ae (f e.2.1) (ae (f e.2.2.1) (ae (f e.2.2.2) ak)))) y)
noncomputable def cSl (f : Expr → EX) (x : Expr) (i : Expr) : EX := match i with
  | .Slice lo hi st _ => (match st with | none => ff (f x) (cO f lo) (cO f hi) | some _ => bad)
  | _ => bad
noncomputable def cI (f : Expr → EX) (x : Expr) (i : Expr) : EX := bif rP i then bY (f x) (f i) else cSl f x i
noncomputable def cSub (T : yo) (f : Expr → EX) (x : Expr) (i : Expr) : EX := match x with
  | .Dict ks vs _ => qm (rP i) (cD4 T f ks vs (f i))
  | x => cI f x i
noncomputable def cCall (T : yo) (cp : CP) (sc : Scope) (f : Expr → EX) (g : Expr) (args : List Expr) (kws : List Keyword) (pos : Pos) : EX := match kws with
  | [] => (match g with
    | .Name g _ => qm (few args && sc.names.lookup g == some .globalImplicit) (jY (T.call.lookup g) fun c => eCal cp c (cEs f args))
    | .Attribute x m ap => qm (few args && (n6 x && (ap.endLine == pos.line && Nat.blt args.length 30))) (match T.mth.lookup m with
      | some ms => fg cp ms (f x) (cEs f args)
      | none => jY ((bif Bc x then bmTs else bmT).lookup m) fun b => fC b (f x) (cEs f args))
    | _ => bad)
  | _ => bad
noncomputable def unG (l : List Comprehension) : Option (Str × Expr × List Expr) := (AP l).bind fun g => (unN g.target).bind fun x => bif decide (g.is_async = 0) then some (x, g.iter, g.ifs) else none
theorem unG_of {l : List Comprehension} {a : Str × Expr × List Expr} (h : unG l = some a) : ∃ p, l = [⟨.Name a.1 p, a.2.1, a.2.2, 0⟩] := by
  obtain ⟨g, hg, h⟩ := b7.mp h
  obtain ⟨x, hx, h⟩ := b7.mp h
  obtain ⟨p, hp⟩ := unN_of hx
  induction g using PySem.Comprehension.casesOn with | mk t i f z =>
  cases hz : decide (z = 0) with
  | false => rw [hz] at h; exact bm h
  | true =>
    rw [hz] at h
    rw [vj hg, ← cm.inj h, of_decide_eq_true hz]
    exact ⟨p, congrArg (fun t => [Comprehension.mk t _ _ _]) hp⟩
noncomputable def cLC (F : Scope → List Str → Expr → EX) (k : Nat) (sc : Scope) (xs : List Str) (elt : Expr) (gens : List Comprehension) (scope : Scope) : EX :=
  jY (unG gens) fun g => qm (vJ sc scope g.1 && jU g.2.1) (jY (Bg xs (dC scope.names)) fun caps =>
      vE caps (F sc xs g.2.1) (cTs (F (bN sc scope) (g.1 :: dC scope.names)) k g.2.2) (F (bN sc scope) (g.1 :: dC scope.names) elt))
noncomputable def cE (T : yo) (cp : CP) : Nat → Scope → List Str → Expr → EX
  | 0, _, _, _ => bad
  | k + 1, sc, xs, e => match e with
    | .Constant c _ _ => cC T c
    | .Name x _ => cN T sc xs x
    | .BinOp l op r _ => aV op (cE T cp k sc xs l) (cE T cp k sc xs r)
    | .UnaryOp op x _ => (match op with | .USub => vD (cE T cp k sc xs x) | _ => bad)
    | .Compare l ops rs _ => eT (BA (cE T cp k sc xs) l ops rs)
    | .IfExp t a b _ => o9 (cT (cE T cp k sc xs) k t) (cE T cp k sc xs a) (cE T cp k sc xs b)
    | .List es _ => qm (few es) (bB (cEs (cE T cp k sc xs) es))
    | .Tuple es _ _ => qm (few es) (eB (cEs (cE T cp k sc xs) es))
    | .Dict ks vs _ => cD ks vs
    | .Attribute x a _ => qm (n6 x) (jY (T.fld.lookup a) fun cs => c9 cs (cE T cp k sc xs x))
    | .Subscript x i _ => cSub T (cE T cp k sc xs) x i
    | .Call f args kws pos => cCall T cp sc (cE T cp k sc xs) f args kws pos
    | .ListComp elt gens scope _ => cLC (cE T cp k) k sc xs elt gens scope
    | _ => bad
section
variable {W : Wd} {sc : Scope} {n : Nat} {xs : List Str} {T : yo} {pos : Pos}
theorem dZ {α : Type} {o : Option α} {F : α → EX} {e : Expr} (h : ∀ a, o = some a → SemX W sc xs n e (F a)) : SemX W sc xs n e (jY o F) := by induction o using Option.casesOn with | none => exact iC | some a => exact h a rfl
theorem gX {b : Bool} {x : EX} {e : Expr} (h : b = true → SemX W sc xs n e x) : SemX W sc xs n e (qm b x) := by induction b using Bool.casesOn with | false => exact iC | true => exact h rfl
theorem qu {f : Expr → EX} (hf : ∀ e, SemX W sc xs n e (f e)) : ∀ {es : List Expr}, es.all lF = true → SemL W sc xs n es (cEs f es)
  | [], _ => lnil_ok
  | e :: r, h => A1 (aD .. |>.mp h).1 (hf e) (qu hf (aD .. |>.mp h).2)
theorem lU {es : List Expr} (h : few es = true) : es.all lF = true ∧ es.length ≤ 1000 := let ⟨a, b⟩ := aD .. |>.mp h; ⟨a, aP b⟩
theorem co_ok {f : Expr → EX} (hf : ∀ e, SemX W sc xs n e (f e)) (e : Option Expr) : BX W sc xs n e (cO f e) := by induction e using Option.casesOn with | none => exact AO | some e => exact AN (hf e)
theorem y7 {f : Expr → EX} (hf : ∀ e, SemX W sc xs n e (f e)) (l : Expr) (ops : List CmpOp) (rs : List Expr) : SemT W sc xs n (.Compare l ops rs pos) (BA f l ops rs) ∧ SemX W sc xs n (.Compare l ops rs pos) (eT (BA f l ops rs)) := by
  have no : SemT W sc xs n (.Compare l ops rs pos) tY ∧ SemX W sc xs n (.Compare l ops rs pos) (eT tY) := ⟨r6, ⟨fun _ _ h => h.elim⟩⟩
  rcases ops with _ | ⟨op, _ | ⟨_, _⟩⟩
  · exact no
  · rcases rs with _ | ⟨r, _ | ⟨_, _⟩⟩
    · exact no
    · unfold BA
      dsimp only
      cases h : jU r with
      | false => exact no
      | true => exact ⟨tcmp_ok (hf l) (hf r) h, cmp_ok (hf l) (hf r) h⟩
    · exact no
  · exact no
theorem y0 {f : Expr → EX} (hf : ∀ e, SemX W sc xs n e (f e)) : ∀ k e, SemT W sc xs n e (cT f k e) := by
  intro k
  induction k with
  | zero => exact fun _ => r6
  | succ k ih =>
    intro e
    induction e using PySem.Expr.casesOn with
    | BoolOp op es p =>
      induction op using PySem.BoolOp.casesOn <;> induction es using List.casesOn
      · exact and0_ok
      · exact and_ok (ih _) (ih _)
      · exact or0_ok
      · exact or_ok (ih _) (ih _)
    | UnaryOp op x p => induction op using PySem.UnaryOp.casesOn <;> first | exact not_ok (ih _) | exact r6
    | Compare l ops rs p => exact (y7 hf l ops rs).1
    | IfExp => exact r6
    | _ => exact te_ok (hf _) fun _ _ => rfl
theorem Bs {f : Expr → EX} (hf : ∀ e, SemX W sc xs n e (f e)) (k : Nat) (ifs : List Expr) : uQ W sc xs n ifs (cTs f k ifs) := by
  rcases ifs with _ | ⟨c, _ | ⟨_, _⟩⟩
  · exact ts0_ok
  · exact ts1_ok (y0 hf k c)
  · exact ⟨fun _ _ h => h.elim⟩
theorem wg {i : Expr} (h : rP i = true) : ∀ o j, ∃ l, subscripted i false o j = operate l (getItem o j) := by induction i using PySem.Expr.casesOn <;> first | exact fun _ _ => ⟨_, rfl⟩ | cases h
theorem csl_ok {f : Expr → EX} (hf : ∀ e, SemX W sc xs n e (f e)) (x i : Expr) : SemX W sc xs n (.Subscript x i pos) (cSl f x i) := by
  induction i using PySem.Expr.casesOn with
  | Slice lo hi st _ => induction st using Option.casesOn with
    | none => exact slc_ok (hf x) (co_ok hf lo) (co_ok hf hi)
    | some _ => exact iC
  | _ => exact iC
theorem ci_ok {f : Expr → EX} (hf : ∀ e, SemX W sc xs n e (f e)) (x i : Expr) : SemX W sc xs n (.Subscript x i pos) (cI f x i) := by
  unfold cI
  cases h : rP i with
  | true => exact idx_ok (hf x) (hf i) (wg h)
  | false => exact csl_ok hf x i
theorem rX (V : xe W T) {k : Option Expr} {a : String} (h : A5 T k = some a) : ∃ u p, k = some (.Constant (.str (aa a)) u p) := by
  obtain ⟨e, he, h⟩ := b7.mp h
  obtain ⟨c, hc, h⟩ := b7.mp h
  obtain ⟨u, p, ec⟩ := xu hc
  induction c using PySem.Const.casesOn with
  | str s => exact ⟨u, p, by rw [he, ec, V.sts.at_ h]⟩
  | _ => exact bm h
theorem uJ {P : EX → Prop} {F : Scope → List Str → Expr → EX} {k : Nat} {sc : Scope} {xs : List Str} {elt : Expr} {gens : List Comprehension} {scope : Scope} (h0 : P bad)
    (h : ∀ x px it ifs caps, gens = [⟨.Name x px, it, ifs, 0⟩] → md sc scope x → jU it = true → l8 xs caps (dC scope.names) → P (vE caps (F sc xs it) (cTs (F (bN sc scope) (x :: dC scope.names)) k ifs) (F (bN sc scope) (x :: dC scope.names) elt))) : P (cLC F k sc xs elt gens scope) := by
  unfold cLC
  cases hg : unG gens with
  | none => exact h0
  | some g =>
    show P (qm _ _)
    cases hc : vJ sc scope g.1 && jU g.2.1 with
    | false => exact h0
    | true =>
      show P (jY _ _)
      cases hd : Bg xs (dC scope.names) with
      | none => exact h0
      | some caps => exact (unG_of hg).elim fun px e => h _ px _ _ caps e (zW ((aD .. |>.mp hc).1)) ((aD .. |>.mp hc).2) (rY hd)
theorem Bx (V : xe W T) : ∀ k sc xs e, SemX W sc xs n e (cE T (CallP W n) k sc xs e) := by
  intro k
  induction k with
  | zero => exact fun _ _ _ => iC
  | succ k ih =>
    intro sc xs e
    have ihf := ih sc xs
    induction e using PySem.Expr.casesOn with
    | Constant c u p =>
      induction c using PySem.Const.casesOn with
      | none => exact none_ok
      | bool b => exact By
      | int i => exact cint_ok
      | str s => exact dZ fun x hx => by rw [V.sts.at_ hx]; exact cstr_ok
      | bytes b => exact gX fun hb => z5 (ab (aP hb) (by decide))
      | _ => exact iC
    | Name x p =>
      show SemX W sc xs n _ (cN T sc xs x)
      unfold cN
      split
      · exact var_ok (kt (by assumption))
      · exact dZ fun d hd => gX fun hs => glob_ok (beq_iff_eq.mp hs) (V.glob.at_ hd)
    | BinOp l op r p => exact bin_ok (ihf l) (ihf r)
    | UnaryOp op x p => induction op using PySem.UnaryOp.casesOn <;> first | exact neg_ok (ihf x) | exact iC
    | Compare l ops rs p => exact (y7 ihf l ops rs).2
    | IfExp t a b p => exact if_ok (y0 ihf k t) (ihf a) (ihf b)
    | List es p => exact gX fun h => lst_ok (qu ihf (lU h).1) (lU h).2
    | Tuple es u p => exact gX fun h => tup_ok (qu ihf (lU h).1) (lU h).2
    | Dict ks vs p =>
      induction ks using List.casesOn with
      | nil => induction vs using List.casesOn with
        | nil => exact new_ok
        | cons => exact iC
      | cons k r =>
        refine dZ fun k hk => dZ fun k' hk' => dZ fun v hv => dZ fun a ha => dZ fun b hb => gX fun h => ?_
        obtain ⟨_, _, ea⟩ := xu ha
        obtain ⟨_, _, eb⟩ := xu hb
        rw [vj hk, hk', vj hv, ea, eb, Ba (aD .. |>.mp h).1, Ba (aD .. |>.mp h).2]
        exact d00_ok
    | Attribute x a p => exact gX fun hp => dZ fun cs h => at_ok (V.fld.at_ h) (ihf x) hp
    | Subscript x i p =>
      show SemX W sc xs n _ (cSub T (cE T (CallP W n) k sc xs) x i)
      have ci := ci_ok (pos := p) ihf x i
      induction x using PySem.Expr.casesOn with
      | Dict ks vs dp =>
        refine gX fun hs => dZ fun ks hk => dZ fun vs hv => dZ fun a ha => dZ fun b hb => dZ fun c hc => dZ fun d hd => gX fun h => ?_
        rw [yW hk, yW hv]
        obtain ⟨_, _, ea⟩ := rX V ha
        obtain ⟨_, _, eb⟩ := rX V hb
        obtain ⟨_, _, ec⟩ := rX V hc
        obtain ⟨_, _, ed⟩ := rX V hd
        rw [ea, eb, ec, ed]
        simp only [diff4, Bool.not_eq_true', Bool.or_eq_false_iff, decide_eq_false_iff_not] at h
        obtain ⟨⟨⟨⟨⟨h1, h2⟩, h3⟩, h4⟩, h5⟩, h6⟩ := h
        exact d4_ok h1 h2 h3 h4 h5 h6 (ihf _) (ihf _) (ihf _) (ihf _) (ihf i) (wg hs)
      | _ => exact ci
    | Call f args kws pos =>
      show SemX W sc xs n _ (cCall T (CallP W n) sc (cE T (CallP W n) k sc xs) f args kws pos)
      induction kws using List.casesOn with
      | cons _ _ => exact iC
      | nil =>
        induction f using PySem.Expr.casesOn with
        | Name g p =>
          refine gX fun h => dZ fun c hc => ?_
          obtain ⟨h1, h2⟩ := aD .. |>.mp h
          exact cal_ok (beq_iff_eq.mp h2) (V.call.at_ hc) (qu ihf (lU h1).1)
        | Attribute x m ap =>
          refine gX fun h => ?_
          obtain ⟨h1, h⟩ := aD .. |>.mp h
          obtain ⟨h2, h⟩ := aD .. |>.mp h
          obtain ⟨h3, h4⟩ := aD .. |>.mp h
          have hl := qu ihf (lU h1).1
          have h4 : args.length < 30 := aP h4
          split
          · exact meth_ok (V.mth.at_ (by assumption)) (ihf x) hl h2 (beq_iff_eq.mp h3) h4
          · refine dZ fun b hb => bm_ok ?_ (ihf x) hl h2 (beq_iff_eq.mp h3) h4
            refine TabAll.at_ (P := BmAt) ?_ hb
            cases Bc x
            · exact ⟨.append, .extend, .pop, .find, .endswith, .joinB, trivial⟩
            · exact ⟨.joinS, trivial⟩
        | _ => exact iC
    | ListComp elt gens scope p =>
      exact uJ iC fun x px it ifs caps e h1 h2 h3 => e ▸ lc_ok h1 h2 h3 (ihf _) (Bs (ih _ _) k _) (ih _ _ _)
    | _ => exact iC
end
noncomputable def asT (F : Scope → List Str → Expr → EX) (k : Nat) (sc : Scope) (xs : List Str) (y : Str) (py : Pos) (e : Expr) : SX := qO (wI y xs) fun i => match unL e with
  | some a => o7 (xy sc a.2.2.1 y py a.2.2.2) (dN i (cLC F k sc xs a.1 a.2.1 a.2.2.1))
  | none => o7 (!iA e) (dN i (F sc xs e))
noncomputable def xM : List Nat → Bool
  | [] => true
  | x :: r => !r.contains x && xM r
noncomputable def tupT (f : Expr → EX) (xs : List Str) (ts : List Expr) (e : Expr) : SX := qO (gY ts) fun ns => qO (Bg xs ns) fun is => o7 (xM is && (lH e && !iA e)) (match unT e with
  | some es => o7 (few es) (dM is (cEs f es))
  | none => oQ is (f e))
noncomputable def cAs (T : yo) (F : Scope → List Str → Expr → EX) (k : Nat) (sc : Scope) (xs : List Str) (ts : List Expr) (e : Expr) : SX := match ts with
  | [t] => (match t with
    | .Name y py => asT F k sc xs y py e
    | .Tuple ts _ _ => tupT (F sc xs) xs ts e
    | .Attribute o a _ => o7 (!iA e) (qO (T.fld.lookup a) fun cs => rR cs (F sc xs o) (F sc xs e))
    | .Subscript o i _ => o7 (!iA e) (wj (F sc xs o) (F sc xs i) (F sc xs e))
    | _ => kW)
  | _ => kW
noncomputable def cB (f : Stmt → SX) : List Stmt → SX
  | [] => aq
  | s :: r => an (f s) (cB f r)
noncomputable def cS (T : yo) (cp : CP) (sc : Scope) (xs : List Str) : Nat → Stmt → SX
  | 0, _ => kW
  | k + 1, st => match st with
    | .Pass _ => aq
    | .Break _ => sBrk
    | .Continue _ => sCont
    | .Return e _ => (match e with | none => sRet0 | some e => bS (cE T cp k sc xs e))
    | .Expr e _ => o7 (!iA e) (iY (cE T cp k sc xs e))
    | .Assign ts e _ => cAs T (cE T cp k) k sc xs ts e
    | .AugAssign t op e _ => (match t with
      | .Name x _ => qO (wI x xs) fun i => kX i op (cE T cp k sc xs e)
      | .Attribute o a _ => qO (T.fld.lookup a) fun cs => sE cs (cE T cp k sc xs o) op (cE T cp k sc xs e)
      | _ => kW)
    | .If t a b _ => fu (cT (cE T cp k sc xs) k t) (cB (cS T cp sc xs k) a) (cB (cS T cp sc xs k) b)
    | .While t b o _ => (match o with | [] => tQ (cT (cE T cp k sc xs) k t) (cB (cS T cp sc xs k) b) | _ => kW)
    | .For t it b o _ => (match o with
      | [] => (match t with | .Name x _ => o7 (jU it) (qO (wI x xs) fun i => jC i (cE T cp k sc xs it) (cB (cS T cp sc xs k) b)) | _ => kW)
      | _ => kW)
    | _ => kW
section
variable {W : Wd} {sc : Scope} {n : Nat} {xs : List Str} {T : yo} {pos : Pos}
theorem i8 {α : Type} {o : Option α} {F : α → SX} {t : Env → Sem Flow} (h : ∀ a, o = some a → SemS W sc xs n t (F a)) : SemS W sc xs n t (qO o F) := by induction o using Option.casesOn with | none => exact gf | some a => exact h a rfl
theorem hH {b : Bool} {x : SX} {t : Env → Sem Flow} (h : b = true → SemS W sc xs n t x) : SemS W sc xs n t (o7 b x) := by induction b using Bool.casesOn with | false => exact gf | true => exact h rfl
theorem n7 : ∀ {l : List Nat}, xM l = true → l.Nodup
  | [], _ => nK
  | x :: r, h => by
    obtain ⟨h1, h2⟩ := aD .. |>.mp h
    exact bt.mpr ⟨fun m => (by rw [ig.mpr m] at h1; cases h1), n7 h2⟩
theorem sL {b : Bool} (h : (!b) = true) : b = false := by induction b using Bool.casesOn <;> first | rfl | cases h
theorem uK {f : Stmt → SX} (hf : ∀ s, SemS W sc xs n (exec s) (f s)) : ∀ b, SemS W sc xs n (execs b) (cB f b)
  | [] => nil_ok
  | s :: r => seq_ok (hf s) (uK hf r)
theorem cs_ok (V : xe W T) (VX : rC sc xs) : ∀ k st, SemS W sc xs n (exec st) (cS T (CallP W n) sc xs k st) := by
  intro k
  induction k with
  | zero => exact fun _ => gf
  | succ k ih =>
    intro st
    have ihf := Bx (n := n) V k sc xs
    induction st using PySem.Stmt.casesOn with
    | Pass p => exact pass_ok
    | Break p => exact brk_ok
    | Continue p => exact cont_ok
    | Return e p => induction e using Option.casesOn with
      | none => exact ret0_ok
      | some e => exact ret_ok (ihf e)
    | Expr e p => exact hH fun h => ex_ok (ihf e) (sL h)
    | Assign ts e p =>
      show SemS W sc xs n _ (cAs T (cE T (CallP W n) k) k sc xs ts e)
      rcases ts with _ | ⟨t, _ | ⟨_, _⟩⟩
      · exact gf
      · induction t using PySem.Expr.casesOn with
        | Name y py =>
          refine i8 fun i hi => ?_
          cases hl : unL e with
          | some a =>
            refine hH fun hw => ?_
            rw [unL_of hl]
            exact uJ (P := fun f => SemS W sc xs n _ (dN i f)) ⟨fun _ _ h => h.elim⟩ fun x px it ifs caps e h1 h2 h3 => e ▸ aslc_ok VX (kt hi) hw h1 h2 h3 (ihf _) (Bs (Bx V k _ _) k _) (Bx V k _ _ _)
          | none => exact hH fun h => as_ok VX (kt hi) (ihf _) (sL h)
        | Tuple ts u q =>
          refine i8 fun ns hn => i8 fun is hi => hH fun h => ?_
          obtain ⟨h1, h⟩ := aD .. |>.mp h
          obtain ⟨h2, h3⟩ := aD .. |>.mp h
          cases ht : unT e with
          | some es =>
            obtain ⟨_, _, rfl⟩ := unT_of ht
            exact hH fun hf => Aw hn VX (rY hi) (n7 h1) h2 (lU hf).2 (qu ihf (lU hf).1)
          | none => exact stup_ok hn VX (rY hi) (n7 h1) h2 (sL h3) (ihf _)
        | Attribute o a q => exact hH fun h => i8 fun cs hc => sat_ok (V.fld.at_ hc) (ihf e) (ihf o) (sL h)
        | Subscript o i q => exact hH fun h => sidx_ok (ihf e) (ihf o) (ihf i) (sL h)
        | _ => exact gf
      · exact gf
    | AugAssign t op e p => induction t using PySem.Expr.casesOn with
      | Name x q => exact i8 fun i hi => saug_ok VX (kt hi) (ihf e)
      | Attribute o a q => exact i8 fun cs hc => zB (V.fld.at_ hc) (ihf e) (ihf o)
      | _ => exact gf
    | If t a b p => exact sif_ok (y0 ihf k t) (uK ih a) (uK ih b)
    | While t b o p => induction o using List.casesOn with
      | nil => exact swh_ok (y0 ihf k t) (uK ih b)
      | cons _ _ => exact gf
    | For t it b o p => induction o using List.casesOn with
      | nil => induction t using PySem.Expr.casesOn with
        | Name x q => exact hH fun h => i8 fun i hi => sfor_ok VX (kt hi) h (ihf it) (uK ih b)
        | _ => exact gf
      | cons _ _ => exact gf
    | _ => exact gf
end
set_option backward.match.sparseCases true
noncomputable def mz (m : List Nat) : V → V
  | .hd j => (match m[j]? with | some k => .hd k | none => .un)
  | v => v
theorem yJ {m : List Nat} {j k : Nat} (h : m[j]? = some k) : mz m (.hd j) = .hd k := by show (match m[j]? with | some k => V.hd k | none => .un) = _; rw [h]
theorem renV_no {m : List Nat} {j : Nat} (h : m[j]? = none) : mz m (.hd j) = .un := by show (match m[j]? with | some k => V.hd k | none => .un) = _; rw [h]
noncomputable def p9 (m : List Nat) : MO → MO
  | .inst C vs => .inst C (vs.map (mz m))
  | mo => mo
noncomputable def fitV (N : Nat) : V → Bool | .hd j => Nat.blt j N | _ => true
noncomputable def wK (N : Nat) : MO → Bool | .inst _ vs => vs.all (fitV N) | .hls _ => false | _ => true
structure Sub (m : List Nat) (φ : rD) (σ : List MO) (φL : rD) (σL : List MO) : Prop where
  lφ : φL.length = m.length
  lσ : σL.length = m.length
  at_ : ∀ {j k : Nat}, m[j]? = some k → ∃ p mo, φL[j]? = some p ∧ φ[k]? = some p ∧ σL[j]? = some mo ∧ σ[k]? = some (p9 m mo)
theorem Sub.of {m : List Nat} {φ : rD} {σ : List MO} {φL : rD} {σL : List MO} (S : Sub m φ σ φL σL) {j : Nat} {p : Addr × Addr} (h : φL[j]? = some p) : ∃ (k : Nat) (mo : MO), m[j]? = some k ∧ φ[k]? = some p ∧ σL[j]? = some mo ∧ σ[k]? = some (p9 m mo) := by
  have hj : j < m.length := S.lφ ▸ kS h
  obtain ⟨q, mo, a, b, c, d⟩ := S.at_ (aO hj)
  cases h.symm.trans a
  exact ⟨_, mo, aO hj, b, c, d⟩
theorem own_ren {m : List Nat} {p : Addr × Addr} {mo : MO} {b : Addr} : tN p (p9 m mo) b ↔ tN p mo b := by
  induction mo using MO.casesOn <;> first | exact Iff.rfl | skip
  exact ⟨fun o => by cases o <;> constructor, fun o => by cases o <;> constructor⟩
theorem All2.unmap {α β γ : Type} {P : α → β → Prop} {Q : γ → β → Prop} {f : γ → α} (h : ∀ c b, P (f c) b → Q c b) {l : List γ} : ∀ {m : List β}, All2 P (l.map f) m → All2 Q l m := by
  induction l with
  | nil => exact fun x => x.un0 .nil
  | cons c l ih => exact fun x => x.un fun b m a r => .cons (h c b a) (ih r)
theorem All2.domap {α β γ : Type} {P : α → β → Prop} {Q : γ → β → Prop} {f : γ → α} {l : List γ} {m : List β} (x : All2 Q l m) (h : ∀ c ∈ l, ∀ b, Q c b → P (f c) b) : All2 P (l.map f) m := by
  induction x with
  | nil => exact .nil
  | cons a _ ih => exact .cons (h _ (.head _) _ a) (ih fun c hc => h c (.tail _ hc))
section
variable {W : Wd} {n : Nat} {A : Around} {c c₂ : Cf} {m : List Nat} {φL : rD} {σL : List MO}
theorem RepV.unren {G : Fz} {φ : rD} (S : Sub m φ c.σ φL σL) (v : V) (u : Value) (r : RepV G φ (mz m v) u) : RepV G φL v u := by
  induction v using V.casesOn with
  | un => cases r
  | d x => exact .d r.data
  | hd j =>
    cases e : m[j]? with
    | none => rw [renV_no e] at r; cases r
    | some k =>
      rw [yJ e] at r
      obtain ⟨p, mo, a, b, _⟩ := S.at_ e
      exact r.hd_ fun q hq => by cases b.symm.trans hq; exact .hd a
theorem RelH.sub (R : RelH W c) (nd : m.Nodup) (S : Sub m c.φ c.σ φL σL) (nh : σL.all (wK m.length) = true) : RelH W ⟨c.G, φL, σL, c.s⟩ := by
  have up : ∀ {j b}, eK φL σL j b → ∃ k : Nat, m[j]? = some k ∧ eK c.φ c.σ k b := fun {j b} ⟨hp, hm, o⟩ => by
    obtain ⟨k, mo, a, b, c, d⟩ := S.of hp
    cases hm.symm.trans c
    exact ⟨k, a, b, d, own_ren.mpr o⟩
  refine ⟨R.base, R.fz, S.lφ.trans S.lσ.symm, fun {j p mo} hp hm => ?_, fun {b j j'} x y => ?_, fun {b j} x => ?_⟩
  · obtain ⟨k, mo', a, b, c', d⟩ := S.of hp
    cases hm.symm.trans c'
    have o := R.objs b d
    induction mo using MO.casesOn with
    | inst C vs => exact o.inst_ fun es n us g g' kk r ne => .inst g g' kk (r.unmap (RepV.unren S)) ne
    | hls l => have := ip.mp nh _ (cq hm); cases this
    | list l => exact o.list_ fun vs n g z r => .list g z r
    | imap => cases o with | imap g e z => exact .imap g e z
    | bmap => cases o with | bmap g z e => exact .bmap g z e
    | tmap => cases o with | tmap g ex d e ks nd z v => exact .tmap g ex d e ks nd z v
    | frz x => exact .frz o.frz_
  · obtain ⟨k, a, x⟩ := up x
    obtain ⟨k', a', y⟩ := up y
    have e := R.one x y
    exact (List.getElem?_inj (kS a) nd).mp (a.trans (e ▸ a'.symm))
  · obtain ⟨k, _, x⟩ := up x
    exact R.off x
noncomputable def wbk (m' : List Nat) (e : Nat) : List Nat → List MO → List MO → List MO
  | k :: m, mo :: τ, σ => wbk m' e m τ (σ.set k (p9 m' mo))
  | [], τ, σ => (match e with | 0 => σ | e + 1 => σ ++ (τ.take (e + 1)).map (p9 m'))
  | _ :: _, [], σ => σ
noncomputable def qU (m : List Nat) (σ : List MO) (e : Nat) : List Nat := match e with | 0 => m | e + 1 => m ++ zn σ.length (e + 1)
theorem vq {σ : List MO} {e j : Nat} : (qU m σ e)[j]? = if j < m.length then m[j]? else if j < m.length + e then some (σ.length + (j - m.length)) else none := by
  induction e using Nat.casesOn with
  | zero =>
    show m[j]? = _
    by_cases h : j < m.length
    · rw [if_pos h]
    · rw [if_neg h, yt (a7.mp h)]; exact (if_neg h).symm
  | succ e =>
    show (m ++ zn σ.length (e + 1))[j]? = _
    by_cases h : j < m.length
    · rw [if_pos h, bG h]
    · rw [if_neg h, bp (a7.mp h)]
      by_cases h' : j < m.length + (e + 1)
      · rw [if_pos h', List.getElem?_range' (by exact aH (.e (.a .A .B) .C (.t .C (.a .B (.a .D .I)) (.q .A (.a .D .I)))) rf [_,_,_,_] [] (aJ (bz h)) h')]; simp
      · rw [if_neg h', yt (by rw [List.length_range']; exact aH (.l (.a .A (.a .B .I)) .C (.i .C (.a .D .A) (.p (.a .B .I) .D))) rf [_,_,_,_] [] (bz h') (aJ (bz h)))]
theorem yA {m' : List Nat} {e : Nat} : ∀ {m : List Nat} {τ σ : List MO}, m.length + e ≤ τ.length → (wbk m' e m τ σ).length = σ.length + e
  | [], τ, σ, h => by
    induction e using Nat.casesOn with
    | zero => rfl
    | succ e => exact (ac ..).trans (by rw [ah, kU, dt (aS (e + 1) ▸ h)])
  | k :: m, [], σ, h => by rw [ao] at h; exact absurd h (by rw [bK]; exact gn.mpr (aH (.q .O (.a (.a .A .I) .B)) rf [_,_] []))
  | k :: m, mo :: τ, σ, h => (yA (m := m) (by rw [ao, ao] at h; exact aH (.l (.a (.a .A .I) .B) (.a .C .I) (.p (.a .A .B) .C)) rf [_,_,_] [] h)).trans (by rw [c8])
theorem Ap {m' : List Nat} {e : Nat} : ∀ {m : List Nat} {τ σ : List MO}, m.length + e ≤ τ.length → m.Nodup → (∀ k ∈ m, k < σ.length) →
    (∀ (j k : Nat), m[j]? = some k → (wbk m' e m τ σ)[k]? = (τ[j]?).map (p9 m')) ∧ (∀ i, i < σ.length → i ∉ m → (wbk m' e m τ σ)[i]? = σ[i]?) ∧ ∀ j, j < e → (wbk m' e m τ σ)[σ.length + j]? = (τ[m.length + j]?).map (p9 m')
  | [], τ, σ, h, _, _ => by
    refine ⟨nofun, fun i hi _ => ?_, fun j hj => ?_⟩
    · induction e using Nat.casesOn with
      | zero => rfl
      | succ e => exact bG hi
    · induction e using Nat.casesOn with
      | zero => exact absurd hj (gc _)
      | succ e => exact at_app.trans (by rw [bR, fY hj, bK, aS])
  | k :: m, [], σ, h, _, _ => by rw [ao] at h; exact absurd h (by rw [bK]; exact gn.mpr (aH (.q .O (.a (.a .A .I) .B)) rf [_,_] []))
  | k :: m, mo :: τ, σ, h, nd, hk => by
    obtain ⟨n1, n2⟩ := bt.mp nd
    obtain ⟨a, b, c⟩ := Ap (m' := m') (e := e) (m := m) (τ := τ) (σ := σ.set k (p9 m' mo)) (by rw [ao, ao] at h; exact aH (.l (.a (.a .A .I) .B) (.a .C .I) (.p (.a .A .B) .C)) rf [_,_,_] [] h) n2 fun i hi => by rw [c8]; exact hk i (.tail _ hi)
    rw [c8] at b c
    have hk0 := hk k (.head _)
    refine ⟨fun j i hj => ?_, fun i hi ni => ?_, fun j hj => ?_⟩
    · induction j using Nat.casesOn with
      | zero => cases hj; exact (b k hk0 n1).trans (lB hk0)
      | succ j => exact a j i hj
    · exact (b i hi fun q => ni (.tail _ q)).trans (nO fun q : k = i => ni (q ▸ .head _))
    · rw [ao, Nat.add_right_comm]; exact c j hj
theorem RepV.reren {G : Fz} {φ φ' : rD} {m' : List Nat} {N : Nat} (h : ∀ (j : Nat) p, j < N → φ[j]? = some p → ∃ k : Nat, m'[j]? = some k ∧ φ'[k]? = some p) {v : V} (hv : fitV N v = true) {u : Value} (r : RepV G φ v u) : RepV G φ' (mz m' v) u := by
  induction v using V.casesOn with
  | un => cases r
  | d x => exact .d r.data
  | hd j =>
    refine r.hd_ fun p hp => ?_
    obtain ⟨k, a, b⟩ := h j p (aP hv) hp
    rw [yJ a]; exact .hd b
theorem Go.sup {e : Nat} (R : RelH W c) (nd : m.Nodup) (S : Sub m c.φ c.σ φL σL) (g : Go [] W ⟨c.G, φL, σL, c.s⟩ c₂) (hz : m.length + e ≤ c₂.σ.length) (ft : (c₂.σ.take (m.length + e)).all (wK (m.length + e)) = true) :
    Go [] W c ⟨c₂.G, c.φ ++ (c₂.φ.drop m.length).take e, wbk (qU m c.σ e) e m c₂.σ c.σ, c₂.s⟩ := by
  have hk : ∀ k ∈ m, k < c.σ.length := fun k hk => by
    obtain ⟨j, hj⟩ := nP hk
    obtain ⟨p, mo, a, b, d, e⟩ := S.at_ hj
    exact kS e
  obtain ⟨w1, w2, w3⟩ := Ap (m' := qU m c.σ e) (σ := c.σ) hz nd hk
  have wl := yA (m' := qU m c.σ e) (σ := c.σ) hz
  generalize hσ : wbk (qU m c.σ e) e m c₂.σ c.σ = σ' at w1 w2 w3 wl ⊢
  have up : ∀ {j b}, eK φL σL j b → ∃ k : Nat, m[j]? = some k ∧ eK c.φ c.σ k b := fun {j b} ⟨hp, hm, o⟩ => by
    obtain ⟨k, mo, a, b, c, d⟩ := S.of hp
    cases hm.symm.trans c
    exact ⟨k, a, b, d, own_ren.mpr o⟩
  have hasUp : ∀ {b}, tJ φL σL b → tJ c.φ c.σ b := fun ⟨j, x⟩ => let ⟨k, _, y⟩ := up x; ⟨k, y⟩
  have kP : PLe c.φ (c.φ ++ (c₂.φ.drop m.length).take e) := fun _ _ e => l0 e
  -- a callee's handle and the caller's
  have mp : ∀ (j : Nat) p, j < m.length + e → c₂.φ[j]? = some p → ∃ k : Nat, (qU m c.σ e)[j]? = some k ∧ (c.φ ++ (c₂.φ.drop m.length).take e)[k]? = some p := fun j p hj hp => by
    rw [vq]
    by_cases h : j < m.length
    · rw [if_pos h]
      obtain ⟨q, mo, a, b, _⟩ := S.at_ (aO h)
      cases hp.symm.trans (g.p _ _ a)
      exact ⟨_, aO h, kP _ _ b⟩
    · rw [if_neg h, if_pos hj]
      refine ⟨_, rfl, ?_⟩
      rw [← R.len, at_app, fY (by exact aH (.e (.a .A .B) .C (.t .C (.a .B .D) (.q .A .D))) rf [_,_,_,_] [] (aJ (bz h)) hj), pS, ew (a7.mp h)]
      exact hp
  -- whose a place is
  have wh : ∀ {i : Nat} {p mo}, (c.φ ++ (c₂.φ.drop m.length).take e)[i]? = some p → σ'[i]? = some mo → (∃ (j : Nat) (mo₂ : MO), j < m.length + e ∧ (qU m c.σ e)[j]? = some i ∧ c₂.φ[j]? = some p ∧ c₂.σ[j]? = some mo₂ ∧ mo = p9 (qU m c.σ e) mo₂) ∨ (i ∉ m ∧ i < c.σ.length ∧ c.φ[i]? = some p ∧ c.σ[i]? = some mo) := fun {i p mo} hp hm => by
    by_cases hi : i < c.σ.length
    · rw [bG (R.len ▸ hi)] at hp
      by_cases im : i ∈ m
      · obtain ⟨j, hj⟩ := nP im
        obtain ⟨q, mo', a, b, _⟩ := S.at_ hj
        cases hp.symm.trans b
        obtain ⟨mo₂, h2, rfl⟩ := bo.mp ((w1 j i hj).symm.trans hm)
        have jl := kS hj
        exact .inl ⟨j, mo₂, ax jl (ai _ _), by rw [vq, if_pos jl]; exact hj, g.p _ _ a, h2, rfl⟩
      · rw [w2 i hi im] at hm
        exact .inr ⟨im, hi, hp, hm⟩
    · have hl : i < c.σ.length + e := wl ▸ kS hm
      obtain ⟨d, rfl⟩ : ∃ d, i = c.σ.length + d := ⟨i - c.σ.length, by exact aH (.i .A (.a .B .C) (.o .A (.a .C .B))) rf [_,_,_] [] (aJ (bz hi))⟩
      have hd : d < e := by exact aH (.t (.a .A .B) (.a .A .C) (.q .B .C)) rf [_,_,_] [] hl
      rw [← R.len, at_app, fY hd, pS] at hp
      obtain ⟨mo₂, h2, rfl⟩ := bo.mp ((w3 d hd).symm.trans hm)
      exact .inl ⟨m.length + d, mo₂, dy hd _, by rw [vq, if_neg (a7.mpr (ai _ _)), if_pos (dy hd _), cQ], hp, h2, rfl⟩
  have wo : ∀ {i b}, eK (c.φ ++ (c₂.φ.drop m.length).take e) σ' i b → (∃ j : Nat, (qU m c.σ e)[j]? = some i ∧ eK c₂.φ c₂.σ j b) ∨ (i ∉ m ∧ i < c.σ.length ∧ eK c.φ c.σ i b) := fun {i b} ⟨hp, hm, o⟩ => by
    rcases wh hp hm with ⟨j, mo₂, _, a, b, d, rfl⟩ | ⟨a, l, b, d⟩
    · exact .inl ⟨j, a, b, d, own_ren.mp o⟩
    · exact .inr ⟨a, l, b, d, o⟩
  -- what is no callee's
  have nl : ∀ {i b}, i ∉ m → eK c.φ c.σ i b → ¬ tJ φL σL b := fun ni o ⟨j, x⟩ => by
    obtain ⟨k, a, y⟩ := up x
    exact ni (R.one o y ▸ cq a)
  have al : ∀ {i b}, eK c.φ c.σ i b → ¬ (c.s.heap.get? b = none) := fun o z => by have := (R.off o).2; rw [z] at this; cases this
  have same : ∀ {i b}, i ∉ m → eK c.φ c.σ i b → c₂.s.heap.get? b = c.s.heap.get? b := fun ni o => u7 (fun x e => g.keep _ x nofun (nl ni o) e) (R.off o).2
  have apart : ∀ {j i b}, eK c₂.φ c₂.σ j b → i ∉ m → eK c.φ c.σ i b → False := fun x ni o => (g.mine _ ⟨_, x⟩).elim (nl ni o) (al o)
  refine ⟨⟨g.s, g.g, kP, fun b o n1 n2 e => g.keep b o n1 (fun q => n2 (hasUp q)) e, nofun, fun b ⟨i, x⟩ => ?_, fun b x => (g.ice b x).imp id (Or.imp hasUp id)⟩,
    ⟨g.H.base, g.H.fz, ?_, fun {i p mo} hp hm => ?_, fun {b i i'} x y => ?_, fun {b i} x => ?_⟩⟩
  · rcases wo x with ⟨j, _, x⟩ | ⟨_, _, x⟩
    · exact (g.mine b ⟨j, x⟩).imp hasUp id
    · exact .inl ⟨i, x⟩
  · show (c.φ ++ (c₂.φ.drop m.length).take e).length = σ'.length
    have := g.H.len
    rw [ac, kU, ik, wl, R.len, this, dt (by exact aH (.l (.a .A .B) .C (.i .C (.a .D .A) (.p .B .D))) rf [_,_,_,_] [] hz (aJ (aH (.l (.a .A .B) .C (.p .A .C)) rf [_,_,_] [] hz)))]
  · rcases wh hp hm with ⟨j, mo₂, hj, a, b, d, rfl⟩ | ⟨a, l, b, d⟩
    · have o := g.H.objs b d
      have fm := ip.mp ft mo₂ (cq ((fY hj).trans d))
      induction mo₂ using MO.casesOn with
      | inst C vs => exact o.inst_ fun es n us g1 g2 kk r ne => .inst g1 g2 kk (r.domap fun v hv u r => RepV.reren mp (ip.mp fm v hv) r) ne
      | hls l => cases fm
      | list l => exact o.list_ fun vs n g z r => .list g z r
      | imap => cases o with | imap g e z => exact .imap g e z
      | bmap => cases o with | bmap g z e => exact .bmap g z e
      | tmap => cases o with | tmap g ex d e ks nd z v => exact .tmap g ex d e ks nd z v
      | frz x => exact .frz o.frz_
    · exact (R.objs b d).keeps g.g kP fun x o => same a ⟨b, d, o⟩
  · rcases wo x with ⟨j, a, x⟩ | ⟨a, l, x⟩ <;> rcases wo y with ⟨j', a', y⟩ | ⟨a', l', y⟩
    · cases g.H.one x y; exact cm.inj (a.symm.trans a')
    · exact (apart x a' y).elim
    · exact (apart y a x).elim
    · exact R.one x y
  · rcases wo x with ⟨j, a, x⟩ | ⟨a, l, x⟩
    · exact g.H.off x
    · refine ⟨?_, same a x ▸ (R.off x).2⟩
      show c₂.G b = none
      cases q : c₂.G b with
      | none => rfl
      | some z => rcases g.ice b (q ▸ rfl) with q | q | q
                  · have q : (c.G b).isSome := q
                    rw [(R.off x).1] at q; cases q
                  · exact (nl a x q).elim
                  · exact (al x q).elim
end
noncomputable def AllVs : Nat → (List Value → Prop) → Prop
  | 0, P => P []
  | n + 1, P => ∀ v, AllVs n fun l => P (v :: l)
theorem AllVs.at_ : ∀ {n : Nat} {P : List Value → Prop}, AllVs n P → ∀ vs : List Value, vs.length = n → P vs
  | 0, _, h, [], _ => h
  | n + 1, _, h, v :: vs, e => AllVs.at_ (h v) vs (fI.inj e)
theorem uL {k : Str → Option NameKind} {x : Str} : ∀ {ns : List Str} {vs : List Value} {m : Str → Option Value}, x ∉ ns → bindL k (ns.zip vs) m x = m x
  | [], _, _, _ => rfl
  | _ :: _, [], _, _ => rfl
  | n :: ns, v :: vs, m, h => by
    show bindL k (ns.zip vs) _ x = _
    rw [uL fun q => h (.tail _ q)]
    split
    · exact if_neg fun q : x = n => h (q ▸ .head _)
    · rfl
theorem uM {k : Str → Option NameKind} {x : Str} : ∀ {ns : List Str} {vs : List Value} {m : Str → Option Value}, x ∉ ns → bindC k (ns.zip vs) m x = m x
  | [], _, _, _ => rfl
  | _ :: _, [], _, _ => rfl
  | n :: ns, v :: vs, m, h => by
    show bindC k (ns.zip vs) _ x = _
    rw [uM fun q => h (.tail _ q)]
    split
    · rfl
    · exact if_neg fun q : x = n => h (q ▸ .head _)
theorem wQ {k : Str → Option NameKind} {x : Str} {v : Value} (hk : k x = some .local) : ∀ {i : Nat} {ns : List Str} {vs : List Value} {m : Str → Option Value}, ns.Nodup → ns[i]? = some x → vs[i]? = some v → bindL k (ns.zip vs) m x = some v
  | 0, _ :: ns, _ :: vs, _, hn, rfl, rfl => by
    show bindL k (ns.zip vs) _ x = _
    rw [uL (bt.mp hn).1, if_pos hk]; exact if_pos rfl
  | i + 1, n :: ns, v :: vs, m, hn, h1, h2 => wQ hk (i := i) (ns := ns) (vs := vs) (bt.mp hn).2 h1 h2
theorem wR {k : Str → Option NameKind} {x : Str} {v : Value} (hk : k x ≠ some .local) : ∀ {i : Nat} {ns : List Str} {vs : List Value} {m : Str → Option Value}, ns.Nodup → ns[i]? = some x → vs[i]? = some v → bindC k (ns.zip vs) m x = some v
  | 0, _ :: ns, _ :: vs, _, hn, rfl, rfl => by
    show bindC k (ns.zip vs) _ x = _
    rw [uM (bt.mp hn).1, if_neg hk]; exact if_pos rfl
  | i + 1, n :: ns, v :: vs, m, hn, h1, h2 => wR hk (i := i) (ns := ns) (vs := vs) (bt.mp hn).2 h1 h2
theorem jI {x : Str} : ∀ {names : List (Str × NameKind)} {n : Nat} {acc : List (Str × Addr)}, ((∃ c, (x, c) ∈ acc) ∨ (x, NameKind.cell) ∈ names) → ∃ c, (x, c) ∈ cellsFrom n names acc
  | [], _, _, h => h.elim id fun m => (bJ m).elim
  | (y, k) :: r, n, acc, h => by
    unfold cellsFrom
    split
    · refine jI (h.elim (fun ⟨c, h⟩ => .inl ⟨c, .tail _ h⟩) fun h => (bc.mp h).elim (fun e => ?_) .inr)
      cases e; exact .inl ⟨n, .head _⟩
    · rename_i hk
      refine jI (h.imp id fun h => (bc.mp h).elim (fun e => ?_) id)
      cases e; exact (hk rfl).elim
theorem iB : ∀ {names : List (Str × NameKind)} {n : Nat} {acc : List (Str × Addr)}, (acc.map (·.1) ++ names.map (·.1)).Nodup → ((cellsFrom n names acc).map (·.1)).Nodup
  | [], _, _, h => by rwa [xp, ar] at h
  | (y, k) :: r, n, acc, h => by
    have h' : ((y :: acc.map (·.1)) ++ r.map (·.1)).Nodup := (List.Perm.nodup_iff List.perm_middle).mp h
    unfold cellsFrom
    split
    · exact iB (acc := (y, n) :: acc) h'
    · exact iB (bt.mp h').2
theorem oY {x : Str} : ∀ {l : List (Str × Addr)} {c : Addr}, (l.map (·.1)).Nodup → (x, c) ∈ l → l.lookup x = some c
  | (y, d) :: r, c, hn, h => by
    obtain ⟨n1, n2⟩ := bt.mp hn
    rw [fL]
    rcases bc.mp h with q | q
    · cases q; rw [beq_self_eq_true]
    · rw [show (x == y) = false from beq_eq_false_iff_ne.mpr fun e => n1 (e ▸ gK.mpr ⟨_, q, rfl⟩)]; exact oY n2 q
noncomputable def fnOk (fd : FuncData) (xs : List Str) : Bool :=
  fd.closure.isEmpty && fd.globals == mainGlobals && fd.builtins == builtinsNs && !fd.scope.isCoroutine && !fd.scope.isGenerator && fd.scope.kind == .function && fd.scope.names.all (fun p => p.2 != .free) &&
  (fd.scope.names.lookup (aa "__debug__")).isNone && (fd.scope.names.lookup (aa "__classdict__")).isNone && xs.all (Bb fd.scope) && wu (fd.scope.names.map (·.1)) && wu xs
theorem yV {i : Nat} : ∀ {j : Nat} {ρ : List V}, iQ j ρ ≠ .un → ρ[j]? = some (iQ j ρ)
  | j, [], h => (h (by induction j using Nat.casesOn <;> rfl)).elim
  | 0, _ :: _, _ => rfl
  | j + 1, _ :: r, h => yV (i := i) (j := j) (ρ := r) h
theorem wJ {j k : Nat} : ∀ {ρ : List V}, iQ j (ρ ++ ay k .un) ≠ .un → j < ρ.length
  | [], h => (h (by
    have : ∀ k j, iQ j (ay k .un) = .un := fun k => by
      induction k with
      | zero => intro j; induction j using Nat.casesOn <;> rfl
      | succ k ih => intro j; induction j using Nat.casesOn with
        | zero => rfl
        | succ j => exact ih j
    exact this k j)).elim
  | v :: r, h => by
    induction j using Nat.casesOn with
    | zero => exact cK _
    | succ j => exact tH (wJ (j := j) (ρ := r) h)
noncomputable abbrev BE (m : List Nat) (e : Nat) (σ τ : List MO) (F : List MO → Prop) : Prop := chk (uR (m.length + e) τ.length) (chk ((τ.take (m.length + e)).all (wK (m.length + e))) (F (wbk (qU m σ e) e m τ σ)))
noncomputable abbrev gM (m : List Nat) (e : Nat) (σ : List MO) (Q : VQ) : FX := fun fl _ τ => match fl with
  | .ret d => BE m e σ τ (Q (.d d))
  | .next => BE m e σ τ (Q (.d .none))
  | _ => False
noncomputable def SubL (m : List Nat) (σ : List MO) : List Nat → List MO → Prop
  | [], [] => True
  | k :: r, mo :: τ => σ[k]? = some (p9 m mo) ∧ SubL m σ r τ
  | _, _ => False
section
variable {W : Wd} {n : Nat} {A : Around} {c : Cf}
theorem Ok.deeper {env : Env} (h : Ok (n + 1) A) : Ok n (A.deeper env) := ⟨h.handled, by have := h.depth; show A.depth + 1 + _ ≤ _; exact aH (.l (.a .A (.m 2 (.a .B .I))) (.n 980) (.p (.a (.a .A .I) (.m 2 .B)) (.n 980))) rf [_,_] [] this, by have := h.units; show A.units + 3 + _ ≤ _; exact aH (.l (.a .A (.m 20 (.a .B .I))) (.n 9800) (.p (.a (.a .A (.n 3)) (.m 20 .B)) (.n 9800))) rf [_,_] [] this⟩
theorem Ok.deep {m : Nat} (h : Ok m A) : A.depth < recursionLimit := aL (ab (ai _ _) h.depth) (by decide)
theorem SubL.sub {m : List Nat} (R : RelH W c) : ∀ {r : List Nat} {τ : List MO}, SubL m c.σ r τ → r.length = τ.length ∧ ∀ {j k : Nat}, r[j]? = some k → ∃ p mo, c.φ[k]? = some p ∧ τ[j]? = some mo ∧ c.σ[k]? = some (p9 m mo)
  | [], [], _ => ⟨rfl, nofun⟩
  | k :: r, mo :: τ, h => by
    obtain ⟨a, b⟩ := SubL.sub R h.2
    refine ⟨congrArg (· + 1) a, fun {j i} e => ?_⟩
    induction j using Nat.casesOn with
    | zero =>
      cases e
      have hk : k < c.φ.length := R.len ▸ kS h.1
      exact ⟨_, _, aO hk, rfl, h.1⟩
    | succ j => exact b e
theorem phi_of {m : List Nat} (φ : rD) (h : ∀ k ∈ m, ∃ p, φ[k]? = some p) : ∃ φL : rD, φL.length = m.length ∧ ∀ {j k : Nat} {p}, m[j]? = some k → φ[k]? = some p → φL[j]? = some p := by
  induction m with
  | nil => exact ⟨[], rfl, nofun⟩
  | cons k m ih =>
    obtain ⟨φL, a, b⟩ := ih fun i hi => h i (.tail _ hi)
    obtain ⟨p, hp⟩ := h k (.head _)
    refine ⟨p :: φL, congrArg (· + 1) a, fun {j i q} e f => ?_⟩
    induction j using Nat.casesOn with
    | zero => cases e; exact hp.symm.trans f
    | succ j => exact b e f
theorem BO {G : Fz} {m : List Nat} {φL : rD} {σL : List MO} (S : Sub m c.φ c.σ φL σL) {ws : List V} : ∀ {vs : List Value}, All2 (RepV G c.φ) (ws.map (mz m)) vs → All2 (RepV G φL) ws vs := fun r => r.unmap (RepV.unren S)
theorem CallP.fn {a : Nat} {o : Obj} {fd : FuncData} {body : List Stmt} {ws dx : List V} {dv : List Value} {ps qs : List Str} {m : List Nat} {e : Nat} {σ σL : List MO} {b : SX} {Q : VQ}
    (h1 : W.K.lookup a = some o) (h2 : o.data = .func fd) (h3 : fd.body = .stmts body) (hcd : codeIn W.K fd.code fd.qualname = true) (hf : fnOk fd (ps ++ qs) = true) (hl : ps.length = ws.length + dx.length)
    (hb : AllVs ws.length fun vs => ∀ S, peek W.K S (bindArgs fd ⟨vs, []⟩) = some (ps.zip (vs ++ dv))) (hd : All2 (RepV (fun _ => none) []) dx dv) (hs : rC fd.scope (ps ++ qs) → SemS W fd.scope (ps ++ qs) n (execs body) b)
    (nd : m.Nodup) (sb : SubL m σ m σL) (nh : σL.all (wK m.length) = true) (h : b (ws ++ dx ++ ay qs.length .un) σL (gM m e σ Q)) : CallP W (n + 1) a (ws.map (mz m)) σ Q := by
  refine ⟨fun {A c vs} hA R eσ rs => ⟨?_⟩⟩
  subst eσ
  simp only [fnOk, aD, beq_iff_eq, List.isEmpty_iff, ug, Bool.not_eq_true', ip] at hf
  obtain ⟨⟨⟨⟨⟨⟨⟨⟨⟨⟨⟨f1, f2⟩, f3⟩, f4⟩, f5⟩, f6⟩, f7⟩, f8⟩, f9⟩, f10⟩, f11⟩, f12⟩ := hf
  have VX : rC fd.scope (ps ++ qs) := ⟨ml f12, f10⟩
  have hn : ps.Nodup := (List.nodup_append.mp VX.1).1
  -- the callee's ledger
  obtain ⟨sl, sa⟩ := SubL.sub R sb
  obtain ⟨φL, pl, pa⟩ := phi_of (m := m) c.φ fun k hk => let ⟨j, hj⟩ := nP hk; let ⟨p, _, hp, _⟩ := sa hj; ⟨p, hp⟩
  have S : Sub m c.φ c.σ φL σL := ⟨pl, sl.symm, fun {j k} e => let ⟨p, mo, x, y, z⟩ := sa e; ⟨p, mo, pa e x, x, y, z⟩⟩
  have RL := R.sub nd S nh
  have rL := BO S rs
  generalize hcL : (⟨c.G, φL, σL, c.s⟩ : Cf) = cL at RL
  obtain ⟨cs, cσ⟩ : cL.s = c.s ∧ cL.σ = σL := hcL ▸ ⟨rfl, rfl⟩
  have T := R.top
  have hvs := rL.length
  have pk := hb.at_ vs hvs ⟨W.M.prog, W.M.w.params⟩
  have rall : All2 (RepV cL.G cL.φ) (ws ++ dx) (vs ++ dv) := (show All2 (RepV cL.G cL.φ) ws vs by rw [← hcL]; exact rL).append (hd.imp fun _ _ => RepV.mono (G := fun _ => none) (φ := []) (fun _ _ e => bm e) fun k _ e => bm e)
  have hlen : (vs ++ dv).length = ps.length := by rw [rall.length, ac, hl]
  refine codeAny_call_function (Ok.deep hA) (T.k _ _ h1) h2 f4 f5 h3 (codeRec_of T.k hcd) ?_
  refine (Looks.of_peek (M := W.M) T.k pk).here ?_
  rw [f1]
  have look : ∀ {x : Str}, fd.scope.names.lookup x = some .cell → ∃ k, (x, k) ∈ cellsFrom (c.s.heap.objs.size + 1) fd.scope.names [] := fun e => jI (.inr (g8 e))
  have kinds : ∀ x ∈ ps.zip (vs ++ dv), fd.scope.names.lookup x.1 = some .local ∨ (fd.scope.names.lookup x.1 = some .cell ∧ ((cellsFrom (c.s.heap.objs.size + 1) fd.scope.names []).lookup x.1).isSome = true) := by
    intro x hx
    rcases qj (f10 _ (ba _ (List.of_mem_zip hx).1)) with e | e
    · exact .inl e
    · obtain ⟨k, q⟩ := look e
      obtain ⟨k, q⟩ := gW q
      exact .inr ⟨e, q ▸ rfl⟩
  refine wpAny_newFunctionEnv_cells f6 kinds fun env he s' x => ?_
  refine ⟨T.lim.keeps x.toInCall.keep, codeAny_func ?_⟩
  have escope : env.scope = fd.scope := by rw [he]; rfl
  have elocals : env.locals = c.s.heap.objs.size := by rw [he]; rfl
  have ecells : env.cells = cellsFrom (c.s.heap.objs.size + 1) fd.scope.names [] := by rw [he]; rfl
  have eglob : env.globals = mainGlobals := by rw [he]; exact f2
  have eblt : env.builtins = builtinsNs := by rw [he]; exact f3
  have ekind : ∀ y, env.kindOf y = fd.scope.names.lookup y := fun y => by rw [he]; rfl
  clear he
  have hE : EnvOk fd.scope env := {
    scope := escope
    glob := eglob
    blt := eblt
    kind := f6
    apart := fun y k e => Nat.ne_of_gt (x.above y k (gO e))
    inj := fun y z k e e' => name_of_addr x.apart (gO e) (gO e')
    celled := fun y e => by
      rcases e with e | e
      · obtain ⟨k, q⟩ := look e
        rw [ecells]; exact gW q
      · have := f7 _ (g8 e); cases this
    nodebug := f8
    noclsdict := f9 }
  have fresh : ∀ b ∈ fa env, c.s.heap.get? b = none := fun b m => by
    have hge : c.s.heap.objs.size ≤ b := by
      rcases bc.mp m with m | m
      · rw [m, elocals]; exact au _
      · obtain ⟨p, hp, rfl⟩ := gK.mp m
        have := x.above p.1 p.2 hp
        rw [elocals] at this; exact gU this
    cases e : c.s.heap.get? b with
    | none => rfl
    | some o => exact absurd (Heap.lt_size e) (a7.mpr hge)
  obtain ⟨h', tk, es'⟩ := x.toInCall.same
  have kp : ∀ b o, cL.s.heap.get? b = some o → s'.heap.get? b = some o := fun b o e => x.toInCall.keep b o (cs ▸ e)
  have g1 : Go [] W cL (cL.to s'.heap s'.toks) := RL.more kp
  have ecs : (cL.to s'.heap s'.toks).s = s' := by subst es'; show Shared.mk _ cL.s.gens cL.s.drawn _ cL.s.os = _; rw [cs]
  have RF : RelF W env (ps ++ qs) (ws ++ dx ++ ay qs.length .un) (cL.to s'.heap s'.toks) := {
    H := g1.H
    frm := ⟨⟨_, x.toInCall.ns⟩, fun y k e => ⟨_, x.cell y k e⟩⟩
    off := fun b m => by
      obtain ⟨k1, k2⟩ := RL.clean (a := b) (cs ▸ fresh b m)
      refine ⟨k2, k1, ?_⟩
      rcases bc.mp m with m | m
      · rw [m]; exact l6 x.toInCall.ns
      · obtain ⟨p, hp, rfl⟩ := gK.mp m
        exact oF (x.cell p.1 p.2 (oY (by rw [ecells]; exact iB (ml f11)) hp))
    vars := fun i y hy ny => by
      have hi := wJ ny
      have gy := (yV (i := i) ny).symm.trans (bG hi)
      obtain ⟨v, hv, rv⟩ := rall.get gy.symm
      have hip : i < ps.length := by rw [hl, ← ac]; exact hi
      have hy' : ps[i]? = some y := (bG hip).symm.trans hy
      rcases qj (f10 _ (ba _ (cq hy'))) with e | e
      · exact ⟨v, .inl ⟨(ekind y).trans e, _, x.toInCall.ns, wQ ((ekind y).trans e) hn hy' hv⟩, rv⟩
      · obtain ⟨k, q⟩ := hE.celled y (.inl e)
        have ce := x.cell y k q
        rw [wR (by rw [ekind, e]; exact nofun) hn hy' hv] at ce
        exact ⟨v, .inr ⟨.inl ((ekind y).trans e), k, q, ce⟩, rv⟩ }
  rw [← cσ] at h
  have run := ((hs VX).run ⟨hE, hA.deeper (env := env)⟩ RF h).run
  rw [ecs] at run
  refine wpAny_mono run (fun f s'' p => ?_) fun _ _ z => z.elim
  induction p using Post.casesOn with | @mk c₂ g₂ z =>
  have gL : Go [] W cL c₂ := Go.less (k := s'.toks) kp g₂ (fun b m => .inr (cs ▸ fresh b m)) fun _ m => (bJ m).elim
  have back : ∀ {v : Value} {d : D}, Rep c₂.G d v → BE m e c.σ c₂.σ (Q (.d d)) → Post [] W c (Val Q) v c₂.s := fun {v d} r q => by
    obtain ⟨q1, q⟩ := kA q
    obtain ⟨q2, q⟩ := kA q
    subst hcL
    exact Post.mk (c' := ⟨c₂.G, c.φ ++ (c₂.φ.drop m.length).take e, wbk (qU m c.σ e) e m c₂.σ c.σ, c₂.s⟩) (Go.sup (e := e) R nd S gL (aP q1) q2) (.mk (.d r) q)
  induction z using FlPost.casesOn with | @mk fl ρ₂ r R₂ q =>
  induction r using FlRep.casesOn with
  | next => exact back .none q
  | brk => exact q.elim
  | cont => exact q.elim
  | ret r => exact back r q
end
structure tK where
  np : Nat
  nq : Nat
  dx : List V
  b : CP → SX
structure FnAt (W : Wd) (a : Nat) (r : tK) : Prop where
  run : ∀ {n : Nat} {ws : List V} {m : List Nat} {e : Nat} {σ σL : List MO} {Q : VQ}, ws.length = r.np → m.Nodup → SubL m σ m σL → σL.all (wK m.length) = true →
    r.b (CallP W n) (ws ++ r.dx ++ ay r.nq .un) σL (gM m e σ Q) → CallP W (n + 1) a (ws.map (mz m)) σ Q
noncomputable def fnK {α : Type} (K : Frag) (a : Nat) (z : α) (F : FuncData → List Stmt → α) : α := match K.lookup a with
  | some o => (match o.data with
    | .func fd => (match fd.body with | .stmts b => F fd b | _ => z)
    | _ => z)
  | none => z
theorem fnK_of {K : Frag} {a : Nat} (h : fnK K a false (fun _ _ => true) = true) : ∃ o fd b, K.lookup a = some o ∧ o.data = .func fd ∧ fd.body = .stmts b ∧ ∀ {α : Type} {z : α} {F : FuncData → List Stmt → α}, fnK K a z F = F fd b := by
  unfold fnK at h
  cases h1 : K.lookup a with
  | none => rw [h1] at h; cases h
  | some o =>
    rw [h1] at h; dsimp only at h
    cases h2 : o.data with
    | func fd =>
      rw [h2] at h; dsimp only at h
      cases h3 : fd.body with
      | stmts b => exact ⟨o, fd, b, rfl, h2, h3, fun {α z F} => by unfold fnK; rw [h1]; dsimp only; rw [h2]; dsimp only; rw [h3]⟩
      | _ => rw [h3] at h; cases h
    | _ => rw [h2] at h; cases h
theorem FnAt.of {W : Wd} {T : yo} {a : Nat} (VT : xe W T) (ps qs : List Str) {np nq : Nat} {dx : List V} {dv : List Value} {b : CP → SX} (h0 : fnK W.K a false (fun _ _ => true) = true)
    (h1 : fnK W.K a false (fun fd _ => codeIn W.K fd.code fd.qualname && fnOk fd (ps ++ qs)) = true) (h2 : (fun cp => fnK W.K a kW fun fd body => cB (cS T cp fd.scope (ps ++ qs) 50) body) = b)
    (h3 : AllVs np fun vs => ∀ S, fnK W.K a none (fun fd _ => peek W.K S (bindArgs fd ⟨vs, []⟩)) = some (ps.zip (vs ++ dv))) (hl : ps.length = np + dx.length) (hq : qs.length = nq) (hd : All2 (RepV (fun _ => none) []) dx dv) : FnAt W a ⟨np, nq, dx, b⟩ := by
  obtain ⟨o, fd, body, e1, e2, e3, e⟩ := fnK_of h0
  refine ⟨fun {n ws m ee σ σL Q} lw nd sb nh h => ?_⟩
  subst lw hq h2
  obtain ⟨c1, c2⟩ := aD .. |>.mp (e.symm.trans h1)
  refine CallP.fn (e := ee) e1 e2 e3 c1 c2 hl ?_ hd (fun VX => uK (cs_ok VT VX 50) body) nd sb nh ?_
  · have : (fun vs => ∀ S, peek W.K S (bindArgs fd ⟨vs, []⟩) = some (ps.zip (vs ++ dv))) = fun vs => ∀ S, fnK W.K a none (fun fd _ => peek W.K S (bindArgs fd ⟨vs, []⟩)) = some (ps.zip (vs ++ dv)) := by
      simp only [e]
    rw [this]; exact h3
  · have : fnK W.K a kW (fun fd body => cB (cS T (CallP W n) fd.scope (ps ++ qs) 50) body) = cB (cS T (CallP W n) fd.scope (ps ++ qs) 50) body := e
    rw [← this]; exact h
noncomputable def allK {κ α : Type} (P : κ → α → Prop) : List (κ × α) → Prop
  | [] => True
  | (x, a) :: r => P x a ∧ allK P r
theorem allK.at_ {α : Type} {P : Nat → α → Prop} {x : Nat} {a : α} : ∀ {l : List (Nat × α)}, allK P l → l.lookup x = some a → P x a
  | (y, b) :: r, h, e => by
    rw [fL] at e
    cases q : x == y with
    | true => rw [q] at e; cases e; exact eq_of_beq q ▸ h.1
    | false => rw [q] at e; exact allK.at_ h.2 e
theorem Bo {K : Frag} {x : Str} : ∀ {cs : List (Nat × Nat)}, (cs.all fun q => vB K x q.1 q.2) = true → FldOk K x cs
  | [], _, _, _, h => bm h
  | (D, j) :: r, h, C, i, e => by
    obtain ⟨a, b⟩ := aD .. |>.mp h
    unfold ti at e
    cases q : rH D C with
    | true => rw [q] at e; cases e; exact nj q ▸ a
    | false => rw [q] at e; exact Bo b _ _ e
theorem AS {K : Frag} {x : Str} : ∀ {cs : List (Nat × Nat)}, (cs.all fun q => sM K q.1 x q.2 && !(xk q.1).contains x) = true → zm K x cs
  | [], _, _, _, h => bm h
  | (D, j) :: r, h, C, i, e => by
    obtain ⟨a, b⟩ := aD .. |>.mp h
    unfold ti at e
    cases q : rH D C with
    | true => rw [q] at e; cases e; exact nj q ▸ a
    | false => rw [q] at e; exact AS b _ _ e
theorem uW {α : Type} {P : Str → α → Prop} {p : Str → α → Bool} (h : ∀ {x a}, p x a = true → P x a) : ∀ {l : List (Str × α)}, (l.all fun q => p q.1 q.2) = true → TabAll P l
  | [], _ => trivial
  | (_, _) :: _, e => have ⟨a, b⟩ := aD .. |>.mp e; ⟨h a, uW h b⟩
structure Wok (W : Wd) (rows : List (Nat × tK)) (mks : List (Nat × Nat)) : Prop where
  fns : allK (FnAt W) rows
  makes : allK (fun C f => xR W.K C f = true) mks
noncomputable abbrev nG : SX := (an (fu (bd .Gt (eV 2) (eC (.int 255))) (an kW aq) aq) aq)
noncomputable abbrev wT (cp : CP) : SX :=
 (an (dN 1 (vE [] (eV 0) dh (gw .ord (ae (eV 0) ak)))) (an (jC 2 (eV 1) nG) (an (bS (gw .bytes (ae (eV 1) ak))) aq)))
noncomputable abbrev vR (cp : CP) : SX :=
 (an (bS (gw .bytes (ae (vE [1, 0] (gw .range (ae (eV 1) ak)) dh (aV .BitAnd (aV .RShift (eV 2) (aV .Mult (eC (.int 8)) (aV .Sub (aV .Sub (eV 1) (eC (.int 1))) (eV 0)))) (eC (.int 255)))) ak))) aq)
noncomputable abbrev kD : TX := (bd .Lt (eV 2) (gw .len (ae (eV 0) ak)))
noncomputable abbrev pj : SX := (an (iY (fC .append (eV 1) (ae (ff (eV 0) (bT (eV 2)) (bT (eV 3))) ak))) (an (dN 2 (eV 3)) aq))
noncomputable abbrev vP : SX := (an (dN 3 (o9 (bd .Lt (eV 3) (eC (.int 0))) (gw .len (ae (eV 0) ak)) (aV .Add (eV 3) (eC (.int 1))))) pj)
noncomputable abbrev kB : SX := (an (dN 3 (fC .find (eV 0) (ae (eC (.bytes [10])) (ae (eV 2) ak)))) vP)
noncomputable abbrev vO : SX := (an (tQ kD kB) (an (bS (eV 1)) aq))
noncomputable abbrev vN : SX := (an (dN 2 (eC (.int 0))) vO)
noncomputable abbrev ye (cp : CP) : SX :=
 (an (dN 1 (bB ak)) vN)
noncomputable abbrev lx (cp : CP) : SX :=
 (an (rR [(108, 0)] (eV 0) (eV 1)) (an (rR [(108, 1), (183, 0)] (eV 0) eNew) aq))
noncomputable abbrev fy (cp : CP) : SX := (an (bS (a8 cp 76 (ae (bY (c9 [(108, 1), (183, 0)] (eV 0)) (eV 2)) (ae (c9 [(108, 0)] (eV 0)) ak)))) aq)
noncomputable abbrev jn (cp : CP) : SX := (an (fu (bd .NotIn (eV 2) (c9 [(108, 1), (183, 0)] (eV 0))) (an (wj (c9 [(108, 1), (183, 0)] (eV 0)) (eV 2) (aV .Add (gw .len (ae (c9 [(108, 1), (183, 0)] (eV 0)) ak)) (eC (.int 1)))) aq) aq) (fy cp))
noncomputable abbrev kh (cp : CP) : SX :=
 (an (dN 2 (gw .bytes (ae (eV 1) ak))) (jn cp))
noncomputable abbrev uc (cp : CP) : SX :=
 (an (rR [(150, 0)] (eV 0) (eV 1)) (an (rR [(150, 1)] (eV 0) (eV 2)) (an (rR [(150, 2)] (eV 0) (eV 3)) (an (rR [(150, 3)] (eV 0) (eV 4)) aq))))
noncomputable abbrev oE (cp : CP) : SX :=
 (an (rR [(108, 1), (183, 0)] (eV 0) eNew) (an (rR [(183, 1)] (eV 0) (bB ak)) (an (rR [(183, 2)] (eV 0) (eC (.int 0))) aq)))
noncomputable abbrev kf (cp : CP) : SX :=
 (an (fu (tE (gw .isinst (ae (eV 1) (ae (eB (ae (eC (.ty "bytes")) (ae (eC (.ty "str")) ak))) ak)))) (an (dN 2 (eB (ae (gw .isinst (ae (eV 1) (ae (eC (.ty "str")) ak))) (ae (eV 1) ak)))) (an (fu (bd .NotIn (eV 2) (c9 [(108, 1), (183, 0)] (eV 0))) (an (wj (c9 [(108, 1), (183, 0)] (eV 0)) (eV 2) (c9 [(183, 2)] (eV 0))) (an (sE [(183, 2)] (eV 0) .Add (eC (.int 1))) aq)) aq) (an (bS (bY (c9 [(108, 1), (183, 0)] (eV 0)) (eV 2))) aq))) aq) (an kW (an (iY (fC .append (c9 [(183, 1)] (eV 0)) (ae (eB (ae (c9 [(183, 2)] (eV 0)) (ae (eV 1) ak))) ak))) (an (sE [(183, 2)] (eV 0) .Add (eC (.int 1))) (an (bS (aV .Sub (c9 [(183, 2)] (eV 0)) (eC (.int 1)))) aq)))))
noncomputable abbrev jO (cp : CP) : SX :=
 (an (bS (vE [0] (eV 1) dh (fg cp [(183, 175)] (eV 1) (ae (eV 0) ak)))) aq)
noncomputable abbrev oB (cp : CP) : SX := (an (rR [(281, 1)] (eV 0) (fg cp [(183, 180)] (eV 3) (ae (eV 2) ak))) (an (rR [(281, 2)] (eV 0) (aV .Mult (bB (ae (eC (.bool false)) ak)) (gw .len (ae (eV 1) ak)))) (an (rR [(281, 3)] (eV 0) (aV .Mult (bB (ae (eC (.bool false)) ak)) (gw .len (ae (eV 2) ak)))) aq)))
noncomputable abbrev oA (cp : CP) : SX := (an (rR [(281, 0)] (eV 0) (fg cp [(183, 180)] (eV 3) (ae (eV 1) ak))) (oB cp))
noncomputable abbrev qz (cp : CP) : SX :=
 (an (dN 3 (a8 cp 183 ak)) (oA cp))
noncomputable abbrev pJ (cp : CP) : SX :=
 (an (bS (eB (ae (eC (.int 0)) (ae (gw .len (ae (c9 [(281, 0)] (eV 0)) ak)) (ae (eC (.int 0)) (ae (gw .len (ae (c9 [(281, 1)] (eV 0)) ak)) ak)))))) aq)
noncomputable abbrev gD : TX := (du (bd .Lt (eV 2) (eV 3)) (du (bd .Lt (eV 4) (eV 5)) (du (bd .Eq (bY (c9 [(281, 0)] (eV 0)) (eV 2)) (bY (c9 [(281, 1)] (eV 0)) (eV 4))) dh)))
noncomputable abbrev gC : SX := (an (kX 2 .Add (eC (.int 1))) (an (kX 4 .Add (eC (.int 1))) aq))
noncomputable abbrev eQ : TX := (du (bd .Lt (eV 2) (eV 3)) (du (bd .Lt (eV 4) (eV 5)) (du (bd .Eq (bY (c9 [(281, 0)] (eV 0)) (aV .Sub (eV 3) (eC (.int 1)))) (bY (c9 [(281, 1)] (eV 0)) (aV .Sub (eV 5) (eC (.int 1))))) dh)))
noncomputable abbrev eP : SX := (an (kX 3 .Sub (eC (.int 1))) (an (kX 5 .Sub (eC (.int 1))) aq))
noncomputable abbrev nc (cp : CP) : SX :=
 (an (oQ [2, 3, 4, 5] (eV 1)) (an (tQ gD gC) (an (tQ eQ eP) (an (bS (eB (ae (eV 2) (ae (eV 3) (ae (eV 4) (ae (eV 5) ak)))))) aq))))
noncomputable abbrev jd : SX := (an (wj (c9 [(281, 2)] (eV 0)) (eV 6) (eC (.bool true))) aq)
noncomputable abbrev jb : SX := (an (wj (c9 [(281, 3)] (eV 0)) (eV 6) (eC (.bool true))) aq)
noncomputable abbrev qy (cp : CP) : SX :=
 (an (oQ [2, 3, 4, 5] (eV 1)) (an (jC 6 (gw .range (ae (eV 2) (ae (eV 3) ak))) jd) (an (jC 6 (gw .range (ae (eV 4) (ae (eV 5) ak))) jb) aq)))
noncomputable abbrev dE : TX := (tL (bd .Lt (eV 2) (gw .len (ae (c9 [(281, 0)] (eV 0)) ak))) (tL (bd .Lt (eV 3) (gw .len (ae (c9 [(281, 1)] (eV 0)) ak))) iw))
noncomputable abbrev gJ : TX := (du (bd .Lt (eV 2) (gw .len (ae (c9 [(281, 0)] (eV 0)) ak))) (du (tE (bY (c9 [(281, 2)] (eV 0)) (eV 2))) dh))
noncomputable abbrev gH : SX := (an (kX 2 .Add (eC (.int 1))) aq)
noncomputable abbrev gG : TX := (du (bd .Lt (eV 3) (gw .len (ae (c9 [(281, 1)] (eV 0)) ak))) (du (tE (bY (c9 [(281, 3)] (eV 0)) (eV 3))) dh))
noncomputable abbrev gF : SX := (an (kX 3 .Add (eC (.int 1))) aq)
noncomputable abbrev gE (cp : CP) : SX := (an (iY (fC .append (eV 1) (ae (a8 cp 150 (ae (eV 4) (ae (eV 2) (ae (eV 5) (ae (eV 3) ak))))) ak))) aq)
noncomputable abbrev lv (cp : CP) : SX := (an (fu (tL (bd .Gt (eV 2) (eV 4)) (tL (bd .Gt (eV 3) (eV 5)) iw)) (gE cp) (an (kX 2 .Add (eC (.int 1))) (an (kX 3 .Add (eC (.int 1))) aq))) aq)
noncomputable abbrev lr (cp : CP) : SX := (an (tQ gG gF) (lv cp))
noncomputable abbrev lq (cp : CP) : SX := (an (tQ gJ gH) (lr cp))
noncomputable abbrev cU (cp : CP) : SX := (an (dM [4, 5] (ae (eV 2) (ae (eV 3) ak))) (lq cp))
noncomputable abbrev kF (cp : CP) : SX := (an (tQ dE (cU cp)) (an (bS (eV 1)) aq))
noncomputable abbrev kE (cp : CP) : SX := (an (dM [2, 3] (ae (eC (.int 0)) (ae (eC (.int 0)) ak))) (kF cp))
noncomputable abbrev ng (cp : CP) : SX :=
 (an (dN 1 (bB ak)) (kE cp))
noncomputable abbrev ie : TX := (du (bd .Lt (eV 13) (eV 6)) (du (bd .Lt (aV .Sub (eV 13) (eV 12)) (eV 7)) (du (bd .Eq (bY (c9 [(281, 0)] (eV 0)) (aV .Add (eV 2) (eV 13))) (bY (c9 [(281, 1)] (eV 0)) (aV .Sub (aV .Add (eV 4) (eV 13)) (eV 12)))) dh)))
noncomputable abbrev h9 : SX := (an (kX 13 .Add (eC (.int 1))) aq)
noncomputable abbrev fj (cp : CP) : SX := (an (dN 13 (a8 cp 292 (ae (eV 9) (ae (eV 12) ak)))) (an (tQ ie h9) (an (wj (eV 9) (eV 12) (eV 13)) (an (fu (du (bd .Eq (aV .Mod (eV 8) (eC (.int 2))) (eC (.int 1))) (du (bd .In (aV .Sub (eV 8) (eV 12)) (eV 10)) (du (bd .GtE (aV .Add (eV 13) (bY (eV 10) (aV .Sub (eV 8) (eV 12)))) (eV 6)) dh))) (an (bS (eB (ae (aV .Add (eV 2) (eV 13)) (ae (aV .Sub (aV .Add (eV 4) (eV 13)) (eV 12)) ak)))) aq) aq) aq))))
noncomputable abbrev h8 : TX := (du (bd .Lt (eV 13) (eV 6)) (du (bd .Lt (aV .Sub (eV 13) (eV 12)) (eV 7)) (du (bd .Eq (bY (c9 [(281, 0)] (eV 0)) (aV .Sub (aV .Sub (eV 3) (eC (.int 1))) (eV 13))) (bY (c9 [(281, 1)] (eV 0)) (aV .Add (aV .Sub (aV .Sub (eV 5) (eC (.int 1))) (eV 13)) (eV 12)))) dh)))
noncomputable abbrev hN : SX := (an (kX 13 .Add (eC (.int 1))) aq)
noncomputable abbrev fi (cp : CP) : SX := (an (dN 13 (a8 cp 292 (ae (eV 10) (ae (eV 12) ak)))) (an (tQ h8 hN) (an (wj (eV 10) (eV 12) (eV 13)) (an (fu (du (bd .Eq (aV .Mod (eV 8) (eC (.int 2))) (eC (.int 0))) (du (bd .In (aV .Sub (eV 8) (eV 12)) (eV 9)) (du (bd .GtE (aV .Add (eV 13) (bY (eV 9) (aV .Sub (eV 8) (eV 12)))) (eV 6)) dh))) (an (bS (eB (ae (aV .Sub (eV 3) (eV 13)) (ae (aV .Add (aV .Sub (eV 5) (eV 13)) (eV 12)) ak)))) aq) aq) aq))))
noncomputable abbrev lZ (cp : CP) : SX := (an (jC 12 (gw .range (ae (vD (eV 11)) (ae (aV .Add (eV 11) (eC (.int 1))) (ae (eC (.int 2)) ak)))) (fi cp)) aq)
noncomputable abbrev hJ (cp : CP) : SX := (an (jC 12 (gw .range (ae (vD (eV 11)) (ae (aV .Add (eV 11) (eC (.int 1))) (ae (eC (.int 2)) ak)))) (fj cp)) (lZ cp))
noncomputable abbrev lY (cp : CP) : SX := (an (jC 11 (gw .range (ae (eC (.int 1)) (ae (aV .Add (aV .FloorDiv (aV .Add (aV .Add (eV 6) (eV 7)) (eC (.int 1))) (eC (.int 2))) (eC (.int 1))) ak))) (hJ cp)) (an kW aq))
noncomputable abbrev lm (cp : CP) : SX := (an (dM [9, 10] (ae eD00 (ae eD00 ak))) (lY cp))
noncomputable abbrev ll (cp : CP) : SX := (an (dN 8 (aV .Sub (eV 6) (eV 7))) (lm cp))
noncomputable abbrev lh (cp : CP) : SX := (an (dM [6, 7] (ae (aV .Sub (eV 3) (eV 2)) (ae (aV .Sub (eV 5) (eV 4)) ak))) (ll cp))
noncomputable abbrev oD (cp : CP) : SX :=
 (an (oQ [2, 3, 4, 5] (eV 1)) (lh cp))
noncomputable abbrev dI : TX := (bd .NotEq (eV 2) (bB ak))
noncomputable abbrev fw (cp : CP) : SX := (an (iY (fg cp [(281, 222)] (eV 0) (ae (eB (ae (eV 3) (ae (eV 4) (ae (eV 5) (ae (eV 6) ak))))) ak))) aq)
noncomputable abbrev jm (cp : CP) : SX := (an (oQ [7, 8] (fg cp [(281, 236)] (eV 0) (ae (eB (ae (eV 3) (ae (eV 4) (ae (eV 5) (ae (eV 6) ak))))) ak))) (an (iY (fC .append (eV 2) (ae (eB (ae (eV 3) (ae (eV 7) (ae (eV 5) (ae (eV 8) ak))))) ak))) (an (iY (fC .append (eV 2) (ae (eB (ae (eV 7) (ae (eV 4) (ae (eV 8) (ae (eV 6) ak))))) ak))) aq)))
noncomputable abbrev jk (cp : CP) : SX := (an (fu (tL (bd .Eq (eV 3) (eV 4)) (tL (bd .Eq (eV 5) (eV 6)) iw)) (fw cp) (jm cp)) aq)
noncomputable abbrev dH (cp : CP) : SX := (an (oQ [3, 4, 5, 6] (fg cp [(281, 215)] (eV 0) (ae (fC .pop (eV 2) ak) ak))) (jk cp))
noncomputable abbrev jj (cp : CP) : SX := (an (tQ dI (dH cp)) aq)
noncomputable abbrev kb (cp : CP) : SX :=
 (an (dN 2 (bB (ae (eV 1) ak))) (jj cp))
noncomputable abbrev tq (cp : CP) : SX :=
 (an (fu (bd .NotIn (aV .Sub (eV 1) (eC (.int 1))) (eV 0)) (an (bS (bY (eV 0) (aV .Add (eV 1) (eC (.int 1))))) aq) aq) (an (fu (bd .NotIn (aV .Add (eV 1) (eC (.int 1))) (eV 0)) (an (bS (aV .Add (bY (eV 0) (aV .Sub (eV 1) (eC (.int 1)))) (eC (.int 1)))) aq) aq) (an (bS (gw .max (ae (aV .Add (bY (eV 0) (aV .Sub (eV 1) (eC (.int 1)))) (eC (.int 1))) (ae (bY (eV 0) (aV .Add (eV 1) (eC (.int 1)))) ak)))) aq)))
noncomputable abbrev z9 (cp : CP) : SX := (an (bS (fg cp [(281, 229)] (eV 2) ak)) aq)
noncomputable abbrev z8 (cp : CP) : SX := (an (iY (fg cp [(281, 243)] (eV 2) (ae (fg cp [(281, 208)] (eV 2) ak) ak))) (z9 cp))
noncomputable abbrev b_myers (cp : CP) : SX :=
 (an (dN 2 (a8 cp 281 (ae (eV 0) (ae (eV 1) ak)))) (z8 cp))
noncomputable abbrev b_by_1 (cp : CP) : SX := (an (bS (a8 cp 306 (ae (eV 1) (ae (eV 2) ak)))) aq)
noncomputable abbrev b_by (cp : CP) : SX :=
 (an (fu (bd .Eq (eV 0) (eC (.str "myers"))) (b_by_1 cp) aq) (an (fu (bd .Eq (eV 0) (eC (.str "patience"))) (an (bS bad) aq) aq) (an (fu (bd .Eq (eV 0) (eC (.str "histogram"))) (an (bS bad) aq) aq) (an kW aq))))
noncomputable abbrev vT (cp : CP) : SX :=
 (an (rR [(359, 0)] (eV 0) (eV 1)) (an (rR [(359, 1)] (eV 0) (eV 2)) (an (rR [(359, 2)] (eV 0) (eV 3)) (an (rR [(359, 3)] (eV 0) (eV 4)) aq))))
noncomputable abbrev tF (cp : CP) : SX :=
 (an (bS (a8 cp 359 (ae (eC (.str "conflict")) (ae (aV .Add (c9 [(359, 1)] (eV 0)) (c9 [(359, 1)] (eV 1))) (ae (aV .Add (c9 [(359, 2)] (eV 0)) (c9 [(359, 2)] (eV 1))) (ae (aV .Add (c9 [(359, 3)] (eV 0)) (c9 [(359, 3)] (eV 1))) ak)))))) aq)
noncomputable abbrev rB (cp : CP) : SX :=
 (an (bS (o9 (bd .Eq (c9 [(359, 0)] (eV 0)) (eC (.str "theirs"))) (c9 [(359, 3)] (eV 0)) (c9 [(359, 2)] (eV 0)))) aq)
noncomputable abbrev qA (cp : CP) : SX :=
 (an (rR [(401, 0)] (eV 0) (eV 1)) (an (rR [(401, 1)] (eV 0) (eV 2)) (an (rR [(401, 2)] (eV 0) (eC (.int 0))) (an (rR [(401, 3)] (eV 0) (eC (.int 0))) aq))))
noncomputable abbrev pM (cp : CP) : SX :=
 (an (fu (bd .Eq (c9 [(401, 2)] (eV 0)) (gw .len (ae (c9 [(401, 1)] (eV 0)) ak))) (an (bS (eC .none)) aq) aq) (an (bS (c9 [(150, 0)] (bY (c9 [(401, 1)] (eV 0)) (c9 [(401, 2)] (eV 0))))) aq))
noncomputable abbrev iN : TX := (du (bd .Lt (c9 [(401, 2)] (eV 0)) (gw .len (ae (c9 [(401, 1)] (eV 0)) ak))) (du (bd .LtE (c9 [(150, 0)] (bY (c9 [(401, 1)] (eV 0)) (c9 [(401, 2)] (eV 0)))) (eV 1)) dh))
noncomputable abbrev iM : SX := (an (dN 1 (gw .max (ae (eV 1) (ae (c9 [(150, 1)] (bY (c9 [(401, 1)] (eV 0)) (c9 [(401, 2)] (eV 0)))) ak)))) (an (sE [(401, 2)] (eV 0) .Add (eC (.int 1))) aq))
noncomputable abbrev pK (cp : CP) : SX :=
 (an (tQ iN iM) (an (bS (eV 1)) aq))
noncomputable abbrev pL (cp : CP) : SX :=
 (an (fu (bd .Gt (c9 [(401, 2)] (eV 0)) (eV 1)) (an (dN 2 (bY (c9 [(401, 1)] (eV 0)) (aV .Sub (c9 [(401, 2)] (eV 0)) (eC (.int 1))))) (an (rR [(401, 3)] (eV 0) (aV .Sub (c9 [(150, 3)] (eV 2)) (c9 [(150, 1)] (eV 2)))) aq)) aq) (an (bS (eT (bd .Gt (c9 [(401, 2)] (eV 0)) (eV 1)))) aq))
noncomputable abbrev vQ (cp : CP) : SX :=
 (an (fu (xx (tE (eV 1))) (an (bS (eC (.str "ours"))) aq) aq) (an (fu (xx (tE (eV 0))) (an (bS (eC (.str "theirs"))) aq) aq) (an (bS (o9 (bd .Eq (eV 2) (eV 3)) (eC (.str "both")) (eC (.str "conflict")))) aq)))
noncomputable abbrev jA : TX := (bd .NotEq (eV 6) (eV 7))
noncomputable abbrev pG (cp : CP) : SX := (an (dN 7 (fg cp [(401, 391)] (eV 3) (ae (fg cp [(401, 391)] (eV 2) (ae (eV 7) ak)) ak))) aq)
noncomputable abbrev jz (cp : CP) : SX := (an (dN 6 (eV 7)) (pG cp))
noncomputable abbrev pF (cp : CP) : SX := (an (bS (eB (ae (a8 cp 359 (ae (a8 cp 412 (ae (eV 8) (ae (eV 9) (ae (eV 10) (ae (eV 11) ak))))) (ae (ff (eV 0) (bT (eV 1)) (bT (eV 6))) (ae (eV 10) (ae (eV 11) ak))))) (ae (eV 6) ak)))) aq)
noncomputable abbrev pE (cp : CP) : SX := (an (dN 11 (ff (c9 [(401, 0)] (eV 3)) (bT (bY (eV 5) (eC (.int 1)))) (bT (aV .Add (eV 6) (c9 [(401, 3)] (eV 3)))))) (pF cp))
noncomputable abbrev pD (cp : CP) : SX := (an (dN 10 (ff (c9 [(401, 0)] (eV 2)) (bT (bY (eV 5) (eC (.int 0)))) (bT (aV .Add (eV 6) (c9 [(401, 3)] (eV 2)))))) (pE cp))
noncomputable abbrev pC (cp : CP) : SX := (an (dM [8, 9] (ae (fg cp [(401, 398)] (eV 2) (ae (bY (eV 4) (eC (.int 0))) ak)) (ae (fg cp [(401, 398)] (eV 3) (ae (bY (eV 4) (eC (.int 1))) ak)) ak))) (pD cp))
noncomputable abbrev pB (cp : CP) : SX := (an (tQ jA (jz cp)) (pC cp))
noncomputable abbrev pA (cp : CP) : SX := (an (dM [6, 7] (ae (vD (eC (.int 1))) (ae (eV 1) ak))) (pB cp))
noncomputable abbrev oz (cp : CP) : SX := (an (dN 5 (eB (ae (aV .Add (eV 1) (c9 [(401, 3)] (eV 2))) (ae (aV .Add (eV 1) (c9 [(401, 3)] (eV 3))) ak)))) (pA cp))
noncomputable abbrev rh (cp : CP) : SX :=
 (an (dN 4 (eB (ae (c9 [(401, 2)] (eV 2)) (ae (c9 [(401, 2)] (eV 3)) ak)))) (oz cp))
noncomputable abbrev tw : TX := (tE (eC (.bool true)))
noncomputable abbrev yk (cp : CP) : SX := (an (iY (fC .append (eV 6) (ae (a8 cp 359 (ae (eC (.str "same")) (ae (ff (eV 0) (bT (eV 7)) (bT (eV 9))) (ae (eV 10) (ae (ff (eV 2) (bT (aV .Add (eV 7) (c9 [(401, 3)] (eV 5)))) (bT (aV .Add (eV 9) (c9 [(401, 3)] (eV 5))))) ak))))) ak))) aq)
noncomputable abbrev tv (cp : CP) : SX := (an (dN 10 (ff (eV 1) (bT (aV .Add (eV 7) (c9 [(401, 3)] (eV 4)))) (bT (aV .Add (eV 9) (c9 [(401, 3)] (eV 4)))))) (yk cp))
noncomputable abbrev yj (cp : CP) : SX := (an (oQ [11, 7] (a8 cp 419 (ae (eV 0) (ae (eV 9) (ae (eV 4) (ae (eV 5) ak)))))) (an (iY (fC .append (eV 6) (ae (eV 11) ak))) aq))
noncomputable abbrev yi (cp : CP) : SX := (an (fu (bd .Eq (eV 8) (bB ak)) (an (bS (eV 6)) aq) aq) (yj cp))
noncomputable abbrev yh (cp : CP) : SX := (an (fu (bd .Gt (eV 9) (eV 7)) (tv cp) aq) (yi cp))
noncomputable abbrev yg (cp : CP) : SX := (an (dN 9 (o9 (bd .NotEq (eV 8) (bB ak)) (gw .min (ae (eV 8) ak)) (gw .len (ae (eV 0) ak)))) (yh cp))
noncomputable abbrev tu (cp : CP) : SX := (an (dN 8 (vE [] (eB (ae (fg cp [(401, 384)] (eV 4) ak) (ae (fg cp [(401, 384)] (eV 5) ak) ak))) (bd .IsNot (eV 0) (eC .none)) (eV 0))) (yg cp))
noncomputable abbrev yf (cp : CP) : SX := (an (tQ tw (tu cp)) aq)
noncomputable abbrev wY (cp : CP) : SX := (an (dM [6, 7] (ae (bB ak) (ae (eC (.int 0)) ak))) (yf cp))
noncomputable abbrev BI (cp : CP) : SX :=
 (an (dM [4, 5] (ae (a8 cp 401 (ae (eV 1) (ae (a8 cp 328 (ae (eV 3) (ae (eV 0) (ae (eV 1) ak)))) ak))) (ae (a8 cp 401 (ae (eV 2) (ae (a8 cp 328 (ae (eV 3) (ae (eV 0) (ae (eV 2) ak)))) ak))) ak))) (wY cp))
noncomputable abbrev mY (cp : CP) : SX := (an (iY (fC .append (eV 2) (ae (a8 cp 359 (ae (eC (.str "both")) (ae (bB ak) (ae (eV 5) (ae (eV 5) ak))))) ak))) aq)
noncomputable abbrev mX (cp : CP) : SX := (an (dN 5 (ff (c9 [(359, 2)] (eV 0)) (bT (eV 3)) (bT (c9 [(150, 0)] (eV 4))))) (mY cp))
noncomputable abbrev mW (cp : CP) : SX := (an (iY (fC .append (eV 2) (ae (a8 cp 359 (ae (eC (.str "conflict")) (ae (bB ak) (ae (eV 6) (ae (ff (c9 [(359, 3)] (eV 0)) (bT (c9 [(150, 2)] (eV 4))) (bT (c9 [(150, 3)] (eV 4)))) ak))))) ak))) (an (dN 3 (c9 [(150, 1)] (eV 4))) aq))
noncomputable abbrev iK (cp : CP) : SX := (an (dN 6 (ff (c9 [(359, 2)] (eV 0)) (bT (c9 [(150, 0)] (eV 4))) (bT (c9 [(150, 1)] (eV 4))))) (mW cp))
noncomputable abbrev fH (cp : CP) : SX := (an (fu (bd .Gt (c9 [(150, 0)] (eV 4)) (eV 3)) (mX cp) aq) (iK cp))
noncomputable abbrev mV (cp : CP) : SX := (an (iY (fC .append (eV 2) (ae (a8 cp 359 (ae (eC (.str "both")) (ae (bB ak) (ae (ff (c9 [(359, 2)] (eV 0)) (bT (eV 3)) gz) (ae (ff (c9 [(359, 2)] (eV 0)) (bT (eV 3)) gz) ak))))) ak))) aq)
noncomputable abbrev mU (cp : CP) : SX := (an (fu (bd .Lt (eV 3) (gw .len (ae (c9 [(359, 2)] (eV 0)) ak))) (mV cp) aq) (an (bS (eV 2)) aq))
noncomputable abbrev mT (cp : CP) : SX := (an (jC 4 (a8 cp 328 (ae (eV 1) (ae (c9 [(359, 2)] (eV 0)) (ae (c9 [(359, 3)] (eV 0)) ak)))) (fH cp)) (mU cp))
noncomputable abbrev pv (cp : CP) : SX :=
 (an (dM [2, 3] (ae (bB ak) (ae (eC (.int 0)) ak))) (mT cp))
noncomputable abbrev fV (cp : CP) : SX := (an (dN 5 (fg cp [(359, 349)] (eV 5) (ae (eV 6) ak))) aq)
noncomputable abbrev j3 (cp : CP) : SX := (an (dN 1 (aV .Add (ff (eV 1) gz (bT (eV 2))) (bB (ae (fg cp [(359, 349)] (eV 5) (ae (eV 4) ak)) ak)))) (an (dN 3 (eC (.int 0))) aq))
noncomputable abbrev j2 (cp : CP) : SX := (an (jC 6 (ff (eV 1) (bT (aV .Add (eV 2) (eC (.int 1)))) gz) (fV cp)) (j3 cp))
noncomputable abbrev j1 (cp : CP) : SX := (an (dN 5 (bY (eV 1) (eV 2))) (j2 cp))
noncomputable abbrev j0 (cp : CP) : SX := (an (fu (du (bd .IsNot (eV 2) (eC .none)) (du (bd .LtE (eV 3) (eC (.int 3))) dh)) (j1 cp) (an (dM [2, 3] (ae (gw .len (ae (eV 1) ak)) (ae (eC (.int 0)) ak))) (an (iY (fC .append (eV 1) (ae (eV 4) ak))) aq))) aq)
noncomputable abbrev ej (cp : CP) : SX := (an (fu (bd .NotEq (c9 [(359, 0)] (eV 4)) (eC (.str "conflict"))) (an (iY (fC .append (eV 1) (ae (eV 4) ak))) (an (kX 3 .Add (gw .len (ae (c9 [(359, 2)] (eV 4)) ak))) (an (fu (bd .In (c9 [(359, 0)] (eV 4)) (eB (ae (eC (.str "ours")) (ae (eC (.str "theirs")) ak)))) (an (dN 2 (eC .none)) aq) aq) aq))) (j0 cp)) aq)
noncomputable abbrev jZ (cp : CP) : SX := (an (jC 4 (eV 0) (ej cp)) (an (bS (eV 1)) aq))
noncomputable abbrev kZ (cp : CP) : SX :=
 (an (dM [1, 2, 3] (ae (bB ak) (ae (eC .none) (ae (eC (.int 0)) ak)))) (jZ cp))
noncomputable abbrev mL (cp : CP) : SX := (an (iY (fC .extend (eV 3) (ae (a8 cp 432 (ae (eV 4) (ae (eV 2) ak))) ak))) aq)
noncomputable abbrev mK (cp : CP) : SX := (an (fu (bd .Eq (eV 1) (eC (.str "zdiff3"))) (an (iY (fC .extend (eV 3) (ae bad ak))) aq) (mL cp)) aq)
noncomputable abbrev fD (cp : CP) : SX := (an (fu (tL (bd .NotEq (c9 [(359, 0)] (eV 4)) (eC (.str "conflict"))) (tL (bd .Eq (eV 1) (eC (.str "diff3"))) iw)) (an (iY (fC .append (eV 3) (ae (eV 4) ak))) aq) (mK cp)) aq)
noncomputable abbrev mJ (cp : CP) : SX := (an (bS (o9 (bd .In (eV 1) (eB (ae (eC (.str "diff3")) (ae (eC (.str "zdiff3")) ak)))) (eV 3) (a8 cp 446 (ae (eV 3) ak)))) aq)
noncomputable abbrev mI (cp : CP) : SX := (an (jC 4 (eV 0) (fD cp)) (mJ cp))
noncomputable abbrev pm (cp : CP) : SX :=
 (an (dN 3 (bB ak)) (mI cp))
noncomputable abbrev tt (cp : CP) : SX :=
 (an (dN 1 (vE [] (aV .Add (c9 [(359, 2)] (eV 0)) (c9 [(359, 3)] (eV 0))) (tE (fC .endswith (eV 0) (ae (eC (.bytes [10])) ak))) (eV 0))) (an (dN 2 (vE [] (eV 1) (xx (tE (fC .endswith (eV 0) (ae (eC (.bytes [13, 10])) ak)))) (eV 0))) (an (bS (o9 (du (bd .NotEq (eV 1) (bB ak)) (du (bd .Eq (eV 2) (bB ak)) dh)) (eC (.bytes [13, 10])) (eC (.bytes [10])))) aq)))
noncomputable abbrev t6 (cp : CP) : SX :=
 (an (fu (tL (bd .Eq (eV 0) (bB ak)) (tL (tE (fC .endswith (bY (eV 0) (vD (eC (.int 1)))) (ae (eC (.bytes [10])) ak))) iw)) (an (bS (eV 0)) aq) aq) (an (bS (aV .Add (ff (eV 0) gz (bT (vD (eC (.int 1))))) (bB (ae (aV .Add (bY (eV 0) (vD (eC (.int 1)))) (eV 1)) ak)))) aq))
noncomputable abbrev q6 (cp : CP) : SX := (an (dN 4 (aV .Add (aV .Add (eV 4) (eC (.bytes [32]))) (a8 cp 71 (ae (eV 2) ak)))) aq)
noncomputable abbrev q5 (cp : CP) : SX := (an (fu (bd .NotEq (eV 2) (eC (.str ""))) (q6 cp) aq) (an (bS (aV .Add (eV 4) (eV 3))) aq))
noncomputable abbrev t5 (cp : CP) : SX :=
 (an (dN 4 (aV .Mult (ff (eC (.bytes [60, 124, 61, 62])) (bT (eV 0)) (bT (aV .Add (eV 0) (eC (.int 1))))) (eV 1))) (q5 cp))
noncomputable abbrev oy (cp : CP) : SX := (an (dN 5 (aV .Add (aV .Add (eV 5) (bB (ae (a8 cp 472 (ae (eC (.int 1)) (ae (eV 3) (ae (bY (eV 2) (eC (.int 1))) (ae (eV 4) ak))))) ak))) (a8 cp 465 (ae (c9 [(359, 1)] (eV 0)) (ae (eV 4) ak))))) aq)
noncomputable abbrev ox (cp : CP) : SX := (an (bS (aV .Add (eV 5) (bB (ae (a8 cp 472 (ae (eC (.int 3)) (ae (eV 3) (ae (bY (eV 2) (eC (.int 2))) (ae (eV 4) ak))))) ak)))) aq)
noncomputable abbrev ja (cp : CP) : SX := (an (dN 5 (aV .Add (aV .Add (eV 5) (bB (ae (a8 cp 472 (ae (eC (.int 2)) (ae (eV 3) (ae (eC (.str "")) (ae (eV 4) ak))))) ak))) (a8 cp 465 (ae (c9 [(359, 3)] (eV 0)) (ae (eV 4) ak))))) (ox cp))
noncomputable abbrev ow (cp : CP) : SX := (an (fu (bd .In (eV 1) (eB (ae (eC (.str "diff3")) (ae (eC (.str "zdiff3")) ak)))) (oy cp) aq) (ja cp))
noncomputable abbrev oq (cp : CP) : SX := (an (dN 5 (aV .Add (bB (ae (a8 cp 472 (ae (eC (.int 0)) (ae (eV 3) (ae (bY (eV 2) (eC (.int 0))) (ae (eV 4) ak))))) ak)) (a8 cp 465 (ae (c9 [(359, 2)] (eV 0)) (ae (eV 4) ak))))) (ow cp))
noncomputable abbrev qx (cp : CP) : SX :=
 (an (dN 4 (a8 cp 458 (ae (eV 0) ak))) (oq cp))
noncomputable abbrev q3 (cp : CP) : SX := (an (iY (fC .extend (eV 9) (ae (fg cp [(359, 356)] (eV 11) ak) ak))) aq)
noncomputable abbrev qZ (cp : CP) : SX := (an (iY (fC .extend (eV 9) (ae (a8 cp 479 (ae (eV 11) (ae (eV 3) (ae (eV 5) (ae (eV 6) ak))))) ak))) (an (kX 10 .Add (eC (.int 1))) aq))
noncomputable abbrev qY (cp : CP) : SX := (an (fu (bd .IsNot (eV 4) (eC .none)) (an (iY (fC .extend (eV 9) (ae bad ak))) aq) (qZ cp)) aq)
noncomputable abbrev kN (cp : CP) : SX := (an (fu (bd .NotEq (c9 [(359, 0)] (eV 11)) (eC (.str "conflict"))) (q3 cp) (qY cp)) aq)
noncomputable abbrev qX (cp : CP) : SX := (an (jC 11 (a8 cp 453 (ae (eV 8) (ae (eV 3) (ae (eV 7) ak)))) (kN cp)) (an (bS (eB (ae (fC .joinB (eC (.bytes [])) (ae (eV 9) ak)) (ae (eV 10) ak)))) aq))
noncomputable abbrev qW (cp : CP) : SX := (an (dM [9, 10] (ae (bB ak) (ae (eC (.int 0)) ak))) (qX cp))
noncomputable abbrev tZ (cp : CP) : SX :=
 (an (dN 8 (a8 cp 425 (ae (a8 cp 83 (ae (eV 0) ak)) (ae (a8 cp 83 (ae (eV 1) ak)) (ae (a8 cp 83 (ae (eV 2) ak)) (ae (eV 7) ak)))))) (qW cp))
noncomputable abbrev q4 (cp : CP) : SX :=
 (an (dN 2 (o9 (bd .NotEq (eV 0) (eC (.bytes []))) (fC .find (eC (.bytes [60, 124, 61, 62])) (ae (ff (eV 0) gz (bT (eC (.int 1)))) ak)) (vD (eC (.int 1))))) (an (fu (tL (bd .Lt (eV 2) (eC (.int 0))) (tL (bd .NotEq (ff (eV 0) gz (bT (eV 1))) (aV .Mult (ff (eC (.bytes [60, 124, 61, 62])) (bT (eV 2)) (bT (aV .Add (eV 2) (eC (.int 1))))) (eV 1))) iw)) (an (bS (eC .none)) aq) aq) (an (dN 3 (ff (eV 0) (bT (eV 1)) gz)) (an (fu (bd .In (eV 3) (eB (ae (eC (.bytes [])) (ae (eC (.bytes [10])) (ae (eC (.bytes [13, 10])) ak))))) (an (bS (eV 2)) aq) aq) (an (bS (o9 (du (bd .NotEq (eV 2) (eC (.int 2))) (du (bd .Eq (ff (eV 3) gz (bT (eC (.int 1)))) (eC (.bytes [32]))) dh)) (eV 2) (eC .none))) aq)))))
noncomputable abbrev yd (cp : CP) : SX :=
 (an (bS (eT (bd .Eq (vE [1] (a8 cp 83 (ae (eV 0) ak)) (bd .IsNot (a8 cp 502 (ae (eV 0) (ae (eV 1) ak))) (eC .none)) (eV 0)) (bB ak)))) aq)
noncomputable abbrev iE : TX := (bd .Lt (eV 4) (gw .len (ae (eV 0) ak)))
noncomputable abbrev rc (cp : CP) : SX := (an (bS (eB (ae (a8 cp 359 (ae (eC (.str "conflict")) (ae (bY (eV 3) (eC (.int 1))) (ae (bY (eV 3) (eC (.int 0))) (ae (bY (eV 3) (eC (.int 2))) ak))))) (ae (aV .Add (eV 4) (eC (.int 1))) ak)))) aq)
noncomputable abbrev q9 (cp : CP) : SX := (an (fu (du (bd .Eq (eV 6) (eC (.int 3))) (du (bd .Eq (eV 5) (eC (.int 2))) dh)) (rc cp) (an (fu (du (bd .Gt (eV 6) (eV 5)) (du (bd .Lt (eV 6) (eC (.int 3))) dh)) (an (dN 5 (eV 6)) aq) (an (bS (eC .none)) aq)) aq)) aq)
noncomputable abbrev q8 (cp : CP) : SX := (an (fu (bd .Is (eV 6) (eC .none)) (an (iY (fC .append (bY (eV 3) (eV 5)) (ae (bY (eV 0) (eV 4)) ak))) aq) (q9 cp)) (an (kX 4 .Add (eC (.int 1))) aq))
noncomputable abbrev iD (cp : CP) : SX := (an (dN 6 (a8 cp 502 (ae (bY (eV 0) (eV 4)) (ae (eV 2) ak)))) (q8 cp))
noncomputable abbrev q7 (cp : CP) : SX := (an (tQ iE (iD cp)) (an (bS (eC .none)) aq))
noncomputable abbrev t7 (cp : CP) : SX :=
 (an (dM [3, 4, 5] (ae (bB (ae (bB ak) (ae (bB ak) (ae (bB ak) ak)))) (ae (aV .Add (eV 1) (eC (.int 1))) (ae (eC (.int 0)) ak)))) (q7 cp))
noncomputable abbrev d8 : TX := (bd .Lt (eV 5) (gw .len (ae (eV 2) ak)))
noncomputable abbrev mG (cp : CP) : SX := (an (iY (fC .append (eV 3) (ae (a8 cp 359 (ae (eC (.str "same")) (ae (eV 4) (ae (eV 4) (ae (eV 4) ak))))) ak))) (an (dN 4 (bB ak)) aq))
noncomputable abbrev mF (cp : CP) : SX := (an (fu (bd .NotEq (eV 4) (bB ak)) (mG cp) aq) (an (iY (fC .append (eV 3) (ae (bY (eV 6) (eC (.int 0))) ak))) (an (dN 5 (bY (eV 6) (eC (.int 1)))) aq)))
noncomputable abbrev iI (cp : CP) : SX := (an (fu (bd .Is (eV 6) (eC .none)) (an (iY (fC .append (eV 4) (ae (bY (eV 2) (eV 5)) ak))) (an (kX 5 .Add (eC (.int 1))) aq)) (mF cp)) aq)
noncomputable abbrev d7 (cp : CP) : SX := (an (dN 6 (o9 (bd .Eq (a8 cp 502 (ae (bY (eV 2) (eV 5)) (ae (eV 1) ak))) (eC (.int 0))) (a8 cp 515 (ae (eV 2) (ae (eV 5) (ae (eV 1) ak)))) (eC .none))) (iI cp))
noncomputable abbrev mD (cp : CP) : SX := (an (iY (fC .append (eV 3) (ae (a8 cp 359 (ae (eC (.str "same")) (ae (eV 4) (ae (eV 4) (ae (eV 4) ak))))) ak))) aq)
noncomputable abbrev mC (cp : CP) : SX := (an (fu (bd .NotEq (eV 4) (bB ak)) (mD cp) aq) (an (bS (eV 3)) aq))
noncomputable abbrev mB (cp : CP) : SX := (an (tQ d8 (d7 cp)) (mC cp))
noncomputable abbrev mA (cp : CP) : SX := (an (dM [3, 4, 5] (ae (bB ak) (ae (bB ak) (ae (eC (.int 0)) ak)))) (mB cp))
noncomputable abbrev pi (cp : CP) : SX :=
 (an (dN 2 (a8 cp 83 (ae (eV 0) ak))) (mA cp))
noncomputable abbrev oo (cp : CP) : SX := (an (dN 2 (fC .joinB (eC (.bytes [])) (ae (a8 cp 465 (ae (c9 [(359, 3)] (eV 0)) (ae (eC (.bytes [10])) ak))) ak))) (an (bS (o9 (bd .LtE (eV 1) (eV 2)) (eB (ae (eV 1) (ae (eV 2) ak))) (eB (ae (eV 2) (ae (eV 1) ak))))) aq))
noncomputable abbrev qw (cp : CP) : SX :=
 (an (dN 1 (fC .joinB (eC (.bytes [])) (ae (a8 cp 465 (ae (c9 [(359, 2)] (eV 0)) (ae (eC (.bytes [10])) ak))) ak))) (oo cp))
noncomputable abbrev m9 (cp : CP) : SX := (an (iY (fC .append (eV 3) (ae (a8 cp 472 (ae (eC (.int 3)) (ae (eV 2) (ae (eC (.str "")) (ae (eC (.bytes [10])) ak))))) ak))) aq)
noncomputable abbrev m8 (cp : CP) : SX := (an (iY (fC .extend (eV 3) (ae (bB (ae (a8 cp 472 (ae (eC (.int 0)) (ae (eV 2) (ae (eC (.str "")) (ae (eC (.bytes [10])) ak))))) (ae (eV 6) (ae (a8 cp 472 (ae (eC (.int 2)) (ae (eV 2) (ae (eC (.str "")) (ae (eC (.bytes [10])) ak))))) (ae (eV 7) ak))))) ak))) (m9 cp))
noncomputable abbrev m7 (cp : CP) : SX := (an (iY (fC .extend (eV 4) (ae (bB (ae (eV 6) (ae (eC (.bytes [0])) (ae (eV 7) (ae (eC (.bytes [0])) ak))))) ak))) (m8 cp))
noncomputable abbrev m6 (cp : CP) : SX := (an (oQ [6, 7] (a8 cp 530 (ae (eV 5) ak))) (m7 cp))
noncomputable abbrev iL (cp : CP) : SX := (an (fu (bd .NotEq (c9 [(359, 0)] (eV 5)) (eC (.str "conflict"))) (an (iY (fC .extend (eV 3) (ae (c9 [(359, 2)] (eV 5)) ak))) aq) (m6 cp)) aq)
noncomputable abbrev m5 (cp : CP) : SX := (an (dN 8 (o9 (bd .NotEq (eV 4) (bB ak)) (fg cp [(108, 105)] (eV 1) (ae (fC .joinB (eC (.bytes [])) (ae (eV 4) ak)) ak)) (eC .none))) (an (bS (eB (ae (eV 8) (ae (fC .joinB (eC (.bytes [])) (ae (eV 3) ak)) ak)))) aq))
noncomputable abbrev mZ (cp : CP) : SX := (an (jC 5 (a8 cp 523 (ae (eV 0) (ae (eV 2) ak))) (iL cp)) (m5 cp))
noncomputable abbrev pw (cp : CP) : SX :=
 (an (dM [3, 4] (ae (bB ak) (ae (bB ak) ak))) (mZ cp))
noncomputable abbrev k8 (cp : CP) : SX := (an (bS (o9 (du (bd .Eq (eV 8) (eC (.int 0))) (du (tE (a8 cp 508 (ae (eV 7) (ae (eV 4) ak)))) dh)) (eV 7) (eC .none))) aq)
noncomputable abbrev gA (cp : CP) : SX := (an (oQ [7, 8] (a8 cp 495 (ae (eV 1) (ae (eV 6) (ae (eV 2) (ae (eC (.str "merge")) (ae (eC .none) (ae (eB (ae (eC (.str "now")) (ae (eC (.str "then")) (ae (eC (.str "resolved")) ak)))) (ae (aV .Add (eV 4) (eC (.int 2))) ak))))))))) (k8 cp))
noncomputable abbrev k7 (cp : CP) : SX := (an (fu (tL (bd .Is (eV 5) (eC .none)) (tL (bd .NotEq (eV 5) (bY (a8 cp 538 (ae (eV 1) (ae (eV 3) (ae (eV 4) ak)))) (eC (.int 0)))) iw)) (an (bS (eC .none)) aq) aq) (gA cp))
noncomputable abbrev mH (cp : CP) : SX :=
 (an (oQ [5, 6] (a8 cp 538 (ae (eV 0) (ae (eV 3) (ae (eV 4) ak))))) (k7 cp))
noncomputable abbrev mS (cp : CP) : SX := (an (iY (fC .extend (eV 3) (ae (a8 cp 479 (ae (eV 5) (ae (o9 (bd .Eq (c9 [(359, 1)] (eV 5)) (bB ak)) (eC (.str "merge")) (eC (.str "diff3"))) (ae (eB (ae (eC (.str "")) (ae (eC (.str "")) (ae (eC (.str "")) ak)))) (ae (eV 2) ak))))) ak))) aq)
noncomputable abbrev mR (cp : CP) : SX := (an (iY (fC .extend (eV 3) (ae (aV .Add (a8 cp 465 (ae (c9 [(359, 2)] (eV 5)) (ae (a8 cp 458 (ae (eV 5) ak)) ak))) (c9 [(359, 3)] (eV 5))) ak))) aq)
noncomputable abbrev mQ (cp : CP) : SX := (an (fu (bd .Eq (eV 6) (eC (.str "both"))) (mR cp) (an (iY (fC .extend (eV 3) (ae (c9 [(359, 2)] (eV 5)) ak))) aq)) aq)
noncomputable abbrev mP (cp : CP) : SX := (an (fu (bd .Eq (eV 6) (eC (.str "theirs"))) (an (iY (fC .extend (eV 3) (ae (c9 [(359, 3)] (eV 5)) ak))) aq) (mQ cp)) aq)
noncomputable abbrev mO (cp : CP) : SX := (an (fu (bd .Eq (eV 6) (eC (.str "base"))) (an (iY (fC .extend (eV 3) (ae (c9 [(359, 1)] (eV 5)) ak))) aq) (mP cp)) aq)
noncomputable abbrev fE (cp : CP) : SX := (an (fu (bd .Eq (eV 6) (eC (.str "conflict"))) (mS cp) (mO cp)) aq)
noncomputable abbrev mN (cp : CP) : SX := (an (fu (bd .Eq (c9 [(359, 0)] (eV 5)) (eC (.str "conflict"))) (an (dN 6 (o9 (bd .Lt (eV 4) (gw .len (ae (eV 1) ak))) (bY (eV 1) (eV 4)) (eC (.str "conflict")))) (an (kX 4 .Add (eC (.int 1))) aq)) aq) (fE cp))
noncomputable abbrev iJ (cp : CP) : SX := (an (dN 6 (eC .none)) (mN cp))
noncomputable abbrev mM (cp : CP) : SX := (an (jC 5 (a8 cp 523 (ae (eV 0) (ae (eV 2) ak))) (iJ cp)) (an (bS (fC .joinB (eC (.bytes [])) (ae (eV 3) ak))) aq))
noncomputable abbrev pp (cp : CP) : SX :=
 (an (dM [3, 4] (ae (bB ak) (ae (eC (.int 0)) ak))) (mM cp))
noncomputable abbrev yl (cp : CP) : SX :=
 (an (bS (aV .Add (aV .Add (aV .Mult (ff (eC (.bytes [60, 124, 61, 62])) (bT (eV 0)) (bT (aV .Add (eV 0) (eC (.int 1))))) (eV 1)) (eV 2)) (eC (.bytes [10])))) aq)
noncomputable abbrev wZ (cp : CP) : SX :=
 (an (bS (ff (bB (ae (aV .Add (gw .bytes (ae (bB (ae (aV .Add (eC (.int 97)) (aV .Mod (aV .FloorDiv (eV 0) (eC (.int 3))) (eC (.int 3)))) ak)) ak)) (eC (.bytes [10]))) (ae (aV .Add (gw .bytes (ae (bB (ae (aV .Add (eC (.int 97)) (aV .Mod (aV .FloorDiv (eV 0) (eC (.int 9))) (eC (.int 3)))) ak)) ak)) (eC (.bytes [10]))) ak))) gz (bT (aV .Mod (eV 0) (eC (.int 3)))))) aq)
noncomputable abbrev tD (cp : CP) : SX := (an (bS (bB (ae (bY (aV .Add (eV 4) (bB (ae (a8 cp 561 (ae (aV .Mod (eV 3) (eC (.int 4))) (ae (aV .Sub (eV 1) (eC (.int 1))) (ae (eC (.bytes [])) ak)))) (ae (aV .Add (eC (.bytes [60])) (a8 cp 561 (ae (eC (.int 0)) (ae (aV .Sub (eV 1) (eC (.int 1))) (ae (eC (.bytes [120])) ak))))) (ae (eC (.bytes [10])) ak))))) (aV .Mod (aV .FloorDiv (eV 3) (eC (.int 4))) (eC (.int 6)))) ak))) aq)
noncomputable abbrev tC (cp : CP) : SX := (an (dN 4 (bB (ae (a8 cp 561 (ae (aV .Mod (eV 3) (eC (.int 4))) (ae (eV 1) (ae (eC (.bytes [])) ak)))) (ae (a8 cp 561 (ae (aV .Mod (eV 3) (eC (.int 4))) (ae (eV 1) (ae (eC (.bytes [32, 110])) ak)))) (ae (a8 cp 561 (ae (aV .Mod (eV 3) (eC (.int 4))) (ae (aV .Add (eV 1) (eC (.int 1))) (ae (eC (.bytes [])) ak)))) ak))))) (tD cp))
noncomputable abbrev tB (cp : CP) : SX := (an (bS (aV .Add (aV .Add (eV 6) (a8 cp 568 (ae (aV .FloorDiv (eV 3) (eC (.int 27))) ak))) (bB (ae (a8 cp 561 (ae (eC (.int 3)) (ae (eV 1) (ae (eC (.bytes [32, 121, 111, 117, 114, 115])) ak)))) ak)))) aq)
noncomputable abbrev lX (cp : CP) : SX := (an (dN 6 (aV .Add (aV .Add (aV .Add (bB (ae (a8 cp 561 (ae (eC (.int 0)) (ae (eV 1) (ae (eC (.bytes [32, 109, 105, 110, 101])) ak)))) ak)) (a8 cp 568 (ae (eV 3) ak))) (eV 5)) (bB (ae (a8 cp 561 (ae (eC (.int 2)) (ae (eV 1) (ae (eC (.bytes [])) ak)))) ak)))) (tB cp))
noncomputable abbrev tA (cp : CP) : SX := (an (dN 5 (o9 (bd .Eq (eV 2) (eC (.int 3))) (aV .Add (bB (ae (a8 cp 561 (ae (eC (.int 1)) (ae (eV 1) (ae (eC (.bytes [32, 111, 108, 100])) ak)))) ak)) (a8 cp 568 (ae (aV .FloorDiv (eV 3) (eC (.int 7))) ak))) (bB ak))) (lX cp))
noncomputable abbrev tz (cp : CP) : SX := (an (fu (bd .Eq (eV 2) (eC (.int 4))) (tC cp) aq) (tA cp))
noncomputable abbrev tx (cp : CP) : SX := (an (fu (bd .Lt (eV 2) (eC (.int 2))) (an (bS (bB (ae (aV .Add (gw .bytes (ae (bB (ae (aV .Add (eC (.int 97)) (aV .Mod (eV 3) (eC (.int 4)))) ak)) ak)) (eC (.bytes [10]))) ak))) aq) aq) (tz cp))
noncomputable abbrev vS (cp : CP) : SX :=
 (an (dM [2, 3] (ae (aV .Mod (eV 0) (eC (.int 5))) (ae (gw .abs (ae (aV .FloorDiv (eV 0) (eC (.int 5))) ak)) ak))) (tx cp))
noncomputable abbrev jN : SX := (an (dN 3 (ff (eV 0) (bT (eV 1)) gz)) (an (fu (du (bd .Eq (ff (eV 0) gz (bT (eV 1))) (aV .Mult (ff (eC (.bytes [60, 124, 61, 62])) (bT (eV 2)) (bT (aV .Add (eV 2) (eC (.int 1))))) (eV 1))) (du (tL (bd .Eq (eV 3) (eC (.bytes [10]))) (tL (du (bd .Eq (ff (eV 3) gz (bT (eC (.int 1)))) (eC (.bytes [32]))) (du (bd .NotEq (eV 2) (eC (.int 2))) dh)) iw)) dh)) (an (bS (bY (eC (.str "0123")) (eV 2))) aq) aq) aq))
noncomputable abbrev w0 (cp : CP) : SX :=
 (an (jC 2 (gw .range (ae (eC (.int 4)) ak)) jN) (an (bS (eC (.str "."))) aq))
noncomputable abbrev iS : TX := (bd .Lt (eV 5) (gw .len (ae (eV 0) ak)))
noncomputable abbrev pI : TX := (du (bd .NotEq (eV 8) (eC (.str "3"))) (du (bd .Eq (bY (eV 2) (eV 7)) (eC (.str "."))) dh))
noncomputable abbrev pH : SX := (an (dN 7 (aV .Add (eV 7) (eC (.int 1)))) aq)
noncomputable abbrev dq : SX := (an (fu (bd .Eq (bY (eV 2) (eV 7)) (eV 8)) (an (dM [6, 7] (ae (aV .Add (eV 6) (bB (ae (eV 7) ak))) (ae (aV .Add (eV 7) (eC (.int 1))) ak))) (an (tQ pI pH) aq)) (an (fu (bd .NotEq (eV 8) (eC (.str "1"))) (an (dN 6 (eC .none)) (an sBrk aq)) (an (dN 6 (aV .Add (eV 6) (bB (ae (eC .none) ak)))) aq)) aq)) aq)
noncomputable abbrev iR : SX := (an (dM [6, 7] (ae (bB ak) (ae (eV 5) ak))) (an (jC 8 (eB (ae (eC (.str "0")) (ae (eC (.str "1")) (ae (eC (.str "2")) (ae (eC (.str "3")) ak))))) dq) (an (fu (bd .Is (eV 6) (eC .none)) (an (dM [4, 5] (ae (aV .Add (eV 4) (bB (ae (bY (eV 0) (eV 5)) ak))) (ae (aV .Add (eV 5) (eC (.int 1))) ak))) aq) (an (oQ [9, 10, 11, 12] (eV 6)) (an (dN 3 (aV .Add (eV 3) (o9 (bd .NotEq (eV 4) (bB ak)) (bB (ae (eV 4) ak)) (bB ak)))) (an (dN 13 (ff (eV 0) (bT (aV .Add (eV 9) (eC (.int 1)))) (bT (o9 (bd .IsNot (eV 10) (eC .none)) (eV 10) (eV 11))))) (an (iY (fC .append (eV 3) (ae (eB (ae (eV 13) (ae (o9 (bd .IsNot (eV 10) (eC .none)) (ff (eV 0) (bT (aV .Add (eV 10) (eC (.int 1)))) (bT (eV 11))) (bB ak)) (ae (ff (eV 0) (bT (aV .Add (eV 11) (eC (.int 1)))) (bT (eV 12))) ak)))) ak))) (an (dM [4, 5] (ae (bB ak) (ae (aV .Add (eV 12) (eC (.int 1))) ak))) aq)))))) aq)))
noncomputable abbrev ym (cp : CP) : SX :=
 (an (dM [2, 3, 4, 5] (ae (aV .Add (fC .joinS (eC (.str "")) (ae (vE [1] (eV 0) dh (a8 cp 582 (ae (eV 0) (ae (eV 1) ak)))) ak)) (eC (.str "x"))) (ae (bB ak) (ae (bB ak) (ae (eC (.int 0)) ak))))) (an (tQ iS iR) (an (bS (aV .Add (eV 3) (o9 (bd .NotEq (eV 4) (bB ak)) (bB (ae (eV 4) ak)) (bB ak)))) aq)))
noncomputable abbrev nH (cp : CP) : SX := (an (bS (aV .Add (aV .Add (aV .Add (aV .Add (aV .Add (bB (ae (a8 cp 561 (ae (eC (.int 0)) (ae (eV 3) (ae (eC (.bytes [])) ak)))) ak)) (eV 0)) (eV 4)) (bB (ae (a8 cp 561 (ae (eC (.int 2)) (ae (eV 3) (ae (eC (.bytes [])) ak)))) ak))) (eV 2)) (bB (ae (a8 cp 561 (ae (eC (.int 3)) (ae (eV 3) (ae (eC (.bytes [])) ak)))) ak)))) aq)
noncomputable abbrev w4 (cp : CP) : SX :=
 (an (dN 4 (o9 (bd .NotEq (eV 1) (bB ak)) (aV .Add (bB (ae (a8 cp 561 (ae (eC (.int 1)) (ae (eV 3) (ae (eC (.bytes [])) ak)))) ak)) (eV 1)) (bB ak))) (nH cp))
noncomputable abbrev rA (cp : CP) : SX := (an (iY (fC .extend (eV 3) (ae (a8 cp 594 (ae (bB (ae (eV 5) ak)) (ae (bB ak) (ae (bB (ae (eV 6) ak)) (ae (eV 1) ak))))) ak))) aq)
noncomputable abbrev rt (cp : CP) : SX := (an (iY (fC .extend (eV 2) (ae (bB (ae (eV 5) (ae (eC (.bytes [0])) (ae (eV 6) (ae (eC (.bytes [0])) ak))))) ak))) (rA cp))
noncomputable abbrev rq (cp : CP) : SX := (an (oQ [5, 6] (gw .sorted (ae (bB (ae (fC .joinB (eC (.bytes [])) (ae (bY (eV 4) (eC (.int 0))) ak)) (ae (fC .joinB (eC (.bytes [])) (ae (bY (eV 4) (eC (.int 2))) ak)) ak))) ak))) (rt cp))
noncomputable abbrev kQ (cp : CP) : SX := (an (fu (tE (gw .isinst (ae (eV 4) (ae (eC (.ty "tuple")) ak)))) (rq cp) (an (iY (fC .extend (eV 3) (ae (eV 4) ak))) aq)) aq)
noncomputable abbrev rp (cp : CP) : SX := (an (jC 4 (eV 0) (kQ cp)) (an (bS (eB (ae (fC .joinB (eC (.bytes [])) (ae (eV 2) ak)) (ae (fC .joinB (eC (.bytes [])) (ae (eV 3) ak)) ak)))) aq))
noncomputable abbrev t9 (cp : CP) : SX :=
 (an (dM [2, 3] (ae (bB ak) (ae (bB ak) ak))) (rp cp))
noncomputable abbrev rn (cp : CP) : SX := (an (iY (fC .extend (eV 3) (ae (a8 cp 594 (ae (bY (eV 5) (eC (.int 0))) (ae (bY (eV 5) (eC (.int 1))) (ae (bY (eV 5) (eC (.int 2))) (ae (eV 2) ak))))) ak))) aq)
noncomputable abbrev rm (cp : CP) : SX := (an (fu (bd .Eq (eV 6) (eC (.str "none"))) (rn cp) (an (iY (fC .extend (eV 3) (ae (eD4 ["ours", "theirs", "base", "both"] (ae (bY (eV 5) (eC (.int 0))) (ae (bY (eV 5) (eC (.int 2))) (ae (bY (eV 5) (eC (.int 1))) (ae (aV .Add (bY (eV 5) (eC (.int 0))) (bY (eV 5) (eC (.int 2)))) ak)))) (eV 6)) ak))) aq)) aq)
noncomputable abbrev rk (cp : CP) : SX := (an (fu (xx (tE (gw .isinst (ae (eV 5) (ae (eC (.ty "tuple")) ak))))) (an (iY (fC .extend (eV 3) (ae (eV 5) ak))) aq) (rm cp)) aq)
noncomputable abbrev kO (cp : CP) : SX := (an (dN 6 (o9 (du (tE (gw .isinst (ae (eV 5) (ae (eC (.ty "tuple")) ak)))) (du (bd .NotEq (eV 4) (bB ak)) dh)) (fC .pop (eV 4) (ae (eC (.int 0)) ak)) (eC (.str "none")))) (rk cp))
noncomputable abbrev rj (cp : CP) : SX := (an (jC 5 (eV 0) (kO cp)) (an (bS (fC .joinB (eC (.bytes [])) (ae (eV 3) ak))) aq))
noncomputable abbrev t8 (cp : CP) : SX :=
 (an (dM [3, 4] (ae (bB ak) (ae (gw .list (ae (eV 1) ak)) ak))) (rj cp))
noncomputable abbrev fX (cp : CP) : SX := (an (iY (fC .extend (eV 8) (ae (o9 (tE (gw .isinst (ae (eV 9) (ae (eC (.ty "tuple")) ak)))) (a8 cp 594 (ae (bY (eV 9) (eC (.int 2))) (ae (bB ak) (ae (bY (eV 9) (eC (.int 0))) (ae (eV 3) ak))))) (eV 9)) ak))) aq)
noncomputable abbrev j9 (cp : CP) : SX := (an (fu (bd .NotEq (a8 cp 546 (ae (aV .Add (eC (.bytes [120, 10, 113, 10])) (eV 1)) (ae (eV 6) (ae (aV .Add (eV 5) (eV 7)) (ae (eV 4) (ae (eV 3) ak)))))) (aV .Add (eC (.bytes [120, 10, 113, 10])) (eV 7))) (an (bS (eC (.bool false))) aq) aq) aq)
noncomputable abbrev fW (cp : CP) : SX := (an (fu (bd .NotEq (a8 cp 546 (ae (aV .Add (eC (.bytes [112, 10, 120, 10])) (eV 1)) (ae (eV 6) (ae (aV .Add (eV 5) (eV 7)) (ae (eV 4) (ae (eV 3) ak)))))) (eV 10)) (an (bS (eC (.bool false))) aq) aq) aq)
noncomputable abbrev j8 (cp : CP) : SX := (an (dN 10 (o9 (tE (gw .isinst (ae (bY (eV 0) (eC (.int 0))) (ae (eC (.ty "tuple")) ak)))) (eC .none) (aV .Add (eC (.bytes [112, 10, 120, 10])) (eV 7)))) (fW cp))
noncomputable abbrev j7 (cp : CP) : SX := (an (bS (eT (bd .Is (a8 cp 546 (ae (aV .Add (eV 5) (eV 11)) (ae (eV 6) (ae (aV .Add (eV 5) (eV 7)) (ae (eV 4) (ae (eV 3) ak)))))) (eC .none)))) aq)
noncomputable abbrev j6 (cp : CP) : SX := (an (dN 11 (aV .Add (eV 1) (fC .joinB (eC (.bytes [])) (ae (a8 cp 594 (ae (bB (ae (eC (.bytes [107, 10])) ak)) (ae (bB ak) (ae (bB (ae (eC (.bytes [108, 10])) ak)) (ae (eV 3) ak))))) ak)))) (j7 cp))
noncomputable abbrev el (cp : CP) : SX := (an (fu (bd .IsNot (a8 cp 546 (ae (aV .Add (eV 5) (eV 1)) (ae (eV 6) (ae (eV 6) (ae (eV 4) (ae (eV 3) ak)))))) (eC .none)) (an (bS (eC (.bool false))) aq) aq) (j6 cp))
noncomputable abbrev j5 (cp : CP) : SX := (an (fu (bd .Eq (aV .Mod (gw .len (ae (eV 0) ak)) (eC (.int 2))) (eC (.int 0))) (j9 cp) (j8 cp)) (el cp))
noncomputable abbrev j4 (cp : CP) : SX := (an (fu (bd .NotEq (a8 cp 546 (ae (aV .Add (eV 5) (fC .joinB (eC (.bytes [])) (ae (eV 8) ak))) (ae (eV 6) (ae (aV .Add (eV 5) (eV 7)) (ae (eV 4) (ae (eV 3) ak)))))) (aV .Add (eV 5) (eV 7))) (an (bS (eC (.bool false))) aq) aq) (j5 cp))
noncomputable abbrev jM (cp : CP) : SX := (an (jC 9 (eV 0) (fX cp)) (j4 cp))
noncomputable abbrev jL (cp : CP) : SX := (an (dN 8 (bB ak)) (jM cp))
noncomputable abbrev jK (cp : CP) : SX := (an (dN 7 (a8 cp 608 (ae (eV 0) (ae (eV 2) (ae (eV 3) ak))))) (jL cp))
noncomputable abbrev jJ (cp : CP) : SX := (an (dN 6 (bY (a8 cp 538 (ae (aV .Add (eV 5) (eV 1)) (ae (eV 4) (ae (eV 3) ak)))) (eC (.int 1)))) (jK cp))
noncomputable abbrev k9 (cp : CP) : SX :=
 (an (dN 5 (eC (.bytes [112, 10, 113, 10]))) (jJ cp))
noncomputable abbrev zh (cp : CP) : SX := (an (dN 5 (aV .Add (eV 5) (a8 cp 575 (ae (eV 6) (ae (eV 3) ak))))) aq)
noncomputable abbrev b_law_2 (cp : CP) : SX := (an (bS (a8 cp 615 (ae (eV 8) (ae (eV 7) (ae (eV 14) (ae (eV 3) (ae (eV 4) ak))))))) aq)
noncomputable abbrev zg (cp : CP) : SX := (an (fu (tL (bd .Eq (eV 13) (bB ak)) (tL (xx (tE (a8 cp 508 (ae (a8 cp 608 (ae (eV 8) (ae (eV 14) (ae (eV 3) ak)))) (ae (eV 3) ak))))) iw)) (an (bS (eC (.bool true))) aq) aq) (b_law_2 cp))
noncomputable abbrev b_law_4 (cp : CP) : SX := (an (fu (bd .NotEq (a8 cp 554 (ae (eV 7) (ae (eV 15) (ae (eV 3) ak)))) (a8 cp 608 (ae (eV 8) (ae (eV 15) (ae (eV 3) ak))))) (an (bS (eC (.bool false))) aq) aq) (zg cp))
noncomputable abbrev zf (cp : CP) : SX := (an (dN 15 (ff (eV 14) gz (bT (aV .Mod (aV .FloorDiv (eV 2) (eC (.int 512))) (eC (.int 6)))))) (b_law_4 cp))
noncomputable abbrev zd (cp : CP) : SX := (an (dN 14 (vE [2] (gw .range (ae (gw .len (ae (eV 13) ak)) ak)) dh (bY (eB (ae (eC (.str "ours")) (ae (eC (.str "theirs")) (ae (eC (.str "base")) (ae (eC (.str "both")) ak))))) (aV .Mod (aV .FloorDiv (eV 1) (aV .Mult (eC (.int 2)) (aV .Pow (eC (.int 4)) (eV 0)))) (eC (.int 4)))))) (zf cp))
noncomputable abbrev zc (cp : CP) : SX := (an (fu (bd .NotEq (gw .tuple (ae (a8 cp 538 (ae (eV 7) (ae (eV 4) (ae (eV 3) ak)))) ak)) (eB (ae (o9 (bd .NotEq (eV 13) (bB ak)) (fg cp [(108, 105)] (eV 4) (ae (eV 11) ak)) (eC .none)) (ae (eV 12) ak)))) (an (bS (eC (.bool false))) aq) aq) (zd cp))
noncomputable abbrev b_law_8 (cp : CP) : SX := (an (dN 13 (vE [] (eV 8) (tE (gw .isinst (ae (eV 0) (ae (eC (.ty "tuple")) ak)))) (eV 0))) (zc cp))
noncomputable abbrev zb (cp : CP) : SX := (an (oQ [11, 12] (a8 cp 601 (ae (eV 8) (ae (eV 3) ak)))) (b_law_8 cp))
noncomputable abbrev wX (cp : CP) : SX := (an (fu (tL (bd .NotEq (eV 9) (eV 10)) (tL (bd .NotEq (a8 cp 508 (ae (eV 7) (ae (eV 3) ak))) (eT (bd .Eq (vE [3] (eV 5) (bd .NotEq (a8 cp 582 (ae (eV 0) (ae (eV 1) ak))) (eC (.str "."))) (eV 0)) (bB ak)))) iw)) (an (bS (eC (.bool false))) aq) aq) (zb cp))
noncomputable abbrev BH (cp : CP) : SX := (an (dN 10 (vE [] (eV 8) dh (o9 (tE (gw .isinst (ae (eV 0) (ae (eC (.ty "tuple")) ak)))) (eB (ae (eC (.str "conflict")) (ae (bY (eV 0) (eC (.int 1))) (ae (bY (eV 0) (eC (.int 0))) (ae (bY (eV 0) (eC (.int 2))) ak))))) (eB (ae (eC (.str "same")) (ae (eV 0) (ae (eV 0) (ae (eV 0) ak)))))))) (wX cp))
noncomputable abbrev BG (cp : CP) : SX := (an (dN 9 (vE [] (a8 cp 523 (ae (eV 7) (ae (eV 3) ak))) dh (eB (ae (c9 [(359, 0)] (eV 0)) (ae (c9 [(359, 1)] (eV 0)) (ae (c9 [(359, 2)] (eV 0)) (ae (c9 [(359, 3)] (eV 0)) ak))))))) (BH cp))
noncomputable abbrev wW (cp : CP) : SX := (an (dM [7, 8] (ae (fC .joinB (eC (.bytes [])) (ae (eV 5) ak)) (ae (a8 cp 587 (ae (eV 5) (ae (eV 3) ak))) ak))) (BG cp))
noncomputable abbrev wV (cp : CP) : SX := (an (jC 6 (ff (eV 1) (bT (eC (.int 1))) gz) (zh cp)) (wW cp))
noncomputable abbrev wU (cp : CP) : SX := (an (dM [3, 4, 5] (ae (bY (eB (ae (eC (.int 3)) (ae (eC (.int 7)) ak))) (aV .Mod (eV 2) (eC (.int 2)))) (ae (a8 cp 108 (ae (eC (.int 4)) ak)) (ae (bB ak) ak)))) (wV cp))
noncomputable abbrev BF (cp : CP) : SX := (an (dN 2 (o9 (bd .NotEq (eV 1) (bB ak)) (bY (eV 1) (eC (.int 0))) (eC (.int 0)))) (wU cp))
noncomputable abbrev b_law (cp : CP) : SX :=
 (an (dN 1 (vE [] (ff (eV 0) gz (bT (eC (.int 5)))) dh (gw .int (ae (eV 0) ak)))) (BF cp))
noncomputable def TT : yo := {
  glob := [(aa "OURS", .str "ours"), (aa "THEIRS", .str "theirs"), (aa "BOTH", .str "both"), (aa "SAME", .str "same"), (aa "CONFLICT", .str "conflict"), (aa "SHORT", .int 3), (aa "FEED", .bytes [10]), (aa "RETURN_FEED", .bytes [13, 10]), (aa "SIGNS", .bytes [60, 124, 61, 62]), (aa "_law_marks", .bytes [60, 124, 61, 62]), (aa "tuple", .ty "tuple"), (aa "bytes", .ty "bytes"), (aa "str", .ty "str")]
  call := [(aa "octets_of", .fn 71), (aa "big_endian", .fn 76), (aa "lines_of", .fn 83), (aa "line_further", .fn 292), (aa "myers", .fn 306), (aa "by", .fn 328), (aa "chunk_word", .fn 412), (aa "chunk_changed", .fn 419), (aa "chunks", .fn 425), (aa "conflict_parted", .fn 432), (aa "conflicts_closed_up", .fn 446), (aa "conflict_pieces", .fn 453), (aa "conflict_end", .fn 458), (aa "lines_ended", .fn 465), (aa "marker_line", .fn 472), (aa "conflict_shown", .fn 479), (aa "merge_texts", .fn 495), (aa "marker_number", .fn 502), (aa "resolved", .fn 508), (aa "conflict_at", .fn 515), (aa "split_conflicts", .fn 523), (aa "conflict_sides", .fn 530), (aa "conflict_normal", .fn 538), (aa "conflict_replayed", .fn 546), (aa "conflict_picked", .fn 554), (aa "_law_row", .fn 561), (aa "_law_some", .fn 568), (aa "_law_piece", .fn 575), (aa "_law_kind", .fn 582), (aa "_law_cut", .fn 587), (aa "_law_bare", .fn 594), (aa "_law_normal", .fn 601), (aa "_law_picked", .fn 608), (aa "_law_replayed_right", .fn 615), (aa "CountingHasher", .fn 108), (aa "Change", .fn 150), (aa "LineNumbers", .fn 183), (aa "LineSheet", .fn 281), (aa "Chunk", .fn 359), (aa "ChunkSide", .fn 401), (aa "len", .bi .len), (aa "isinstance", .bi .isinst), (aa "ord", .bi .ord), (aa "abs", .bi .abs), (aa "max", .bi .max), (aa "min", .bi .min), (aa "sorted", .bi .sorted), (aa "range", .bi .range), (aa "bytes", .bi .bytes), (aa "int", .bi .int), (aa "list", .bi .list), (aa "tuple", .bi .tuple)]
  fld := [(aa "size", [(108, 0)]), (aa "known", [(108, 1), (183, 0)]), (aa "a_from", [(150, 0)]), (aa "a_to", [(150, 1)]), (aa "b_from", [(150, 2)]), (aa "b_to", [(150, 3)]), (aa "strange", [(183, 1)]), (aa "count", [(183, 2)]), (aa "a", [(281, 0)]), (aa "b", [(281, 1)]), (aa "gone", [(281, 2)]), (aa "come", [(281, 3)]), (aa "word", [(359, 0)]), (aa "base", [(359, 1)]), (aa "ours", [(359, 2)]), (aa "theirs", [(359, 3)]), (aa "lines", [(401, 0)]), (aa "changes", [(401, 1)]), (aa "at", [(401, 2)]), (aa "shift", [(401, 3)])]
  mth := [(aa "digest", [(108, 105)]), (aa "number_of", [(183, 175)]), (aa "numbers_of", [(183, 180)]), (aa "whole", [(281, 208)]), (aa "trimmed", [(281, 215)]), (aa "mark", [(281, 222)]), (aa "changes", [(281, 229)]), (aa "halved", [(281, 236)]), (aa "mark_fewest", [(281, 243)]), (aa "joined", [(359, 349)]), (aa "settled", [(359, 356)]), (aa "begin", [(401, 384)]), (aa "taken", [(401, 391)]), (aa "moved", [(401, 398)])]
  sts := [(aa "myers", "myers"), (aa "patience", "patience"), (aa "histogram", "histogram"), (aa "diff3", "diff3"), (aa "zdiff3", "zdiff3"), (aa "", ""), (aa "merge", "merge"), (aa "now", "now"), (aa "then", "then"), (aa "resolved", "resolved"), (aa "base", "base"), (aa "0123", "0123"), (aa ".", "."), (aa "x", "x"), (aa "0", "0"), (aa "1", "1"), (aa "2", "2"), (aa "3", "3"), (aa "none", "none"), (aa "ours", "ours"), (aa "theirs", "theirs"), (aa "both", "both"), (aa "conflict", "conflict"), (aa "same", "same")] }
noncomputable def rows : List (Nat × tK) := [(71, ⟨1, 2, [], wT⟩),
  (76, ⟨2, 0, [], vR⟩),
  (83, ⟨1, 3, [], ye⟩),
  (98, ⟨2, 0, [], lx⟩),
  (105, ⟨2, 1, [], kh⟩),
  (126, ⟨5, 0, [], uc⟩),
  (168, ⟨1, 0, [], oE⟩),
  (175, ⟨2, 3, [], kf⟩),
  (180, ⟨2, 0, [], jO⟩),
  (201, ⟨3, 1, [], qz⟩),
  (208, ⟨1, 0, [], pJ⟩),
  (215, ⟨2, 4, [], nc⟩),
  (222, ⟨2, 5, [], qy⟩),
  (229, ⟨1, 5, [], ng⟩),
  (236, ⟨2, 12, [], oD⟩),
  (243, ⟨2, 7, [], kb⟩),
  (292, ⟨2, 0, [], tq⟩),
  (306, ⟨2, 1, [], b_myers⟩),
  (328, ⟨3, 0, [], b_by⟩),
  (342, ⟨5, 0, [], vT⟩),
  (349, ⟨2, 0, [], tF⟩),
  (356, ⟨1, 0, [], rB⟩),
  (377, ⟨3, 0, [], qA⟩),
  (384, ⟨1, 0, [], pM⟩),
  (391, ⟨2, 0, [], pK⟩),
  (398, ⟨2, 1, [], pL⟩),
  (412, ⟨4, 0, [], vQ⟩),
  (419, ⟨4, 8, [], rh⟩),
  (425, ⟨4, 8, [], BI⟩),
  (432, ⟨2, 5, [], pv⟩),
  (446, ⟨1, 6, [], kZ⟩),
  (453, ⟨3, 2, [], pm⟩),
  (458, ⟨1, 2, [], tt⟩),
  (465, ⟨2, 0, [], t6⟩),
  (472, ⟨4, 1, [], t5⟩),
  (479, ⟨4, 2, [], qx⟩),
  (495, ⟨7, 4, [.d (.str "myers")], tZ⟩),
  (502, ⟨2, 2, [], q4⟩),
  (508, ⟨2, 0, [], yd⟩),
  (515, ⟨3, 4, [], t7⟩),
  (523, ⟨2, 5, [], pi⟩),
  (530, ⟨1, 2, [], qw⟩),
  (538, ⟨3, 6, [], pw⟩),
  (546, ⟨5, 4, [], mH⟩),
  (554, ⟨3, 4, [], pp⟩),
  (561, ⟨3, 0, [], yl⟩),
  (568, ⟨1, 0, [], wZ⟩),
  (575, ⟨2, 5, [], vS⟩),
  (582, ⟨2, 2, [], w0⟩),
  (587, ⟨2, 12, [], ym⟩),
  (594, ⟨4, 1, [], w4⟩),
  (601, ⟨2, 5, [], t9⟩),
  (608, ⟨3, 4, [], t8⟩),
  (615, ⟨5, 7, [], k9⟩),
  (620, ⟨1, 15, [], b_law⟩)]
noncomputable def mks : List (Nat × Nat) := [(108, 98), (150, 126), (183, 168), (281, 201), (359, 342), (401, 377)]
theorem All2.both {α β γ : Type} {P Q : α → β → Prop} {R : α → γ → Prop} {l : List α} {m : List β} {k : List γ} (x : All2 P l m) (h : ∀ a b c, P a b → R a c → Q a b) : All2 R l k → All2 Q l m := by
  induction x generalizing k with
  | nil => exact fun _ => .nil
  | cons a _ ih => exact fun y => y.un fun b k' p q => .cons (h _ _ _ a p) (ih q)
section
variable {W : Wd} {X : List Addr} {c : Cf} {G G₀ : Fz} {φ ψ : rD}
theorem RepV.less {v : V} {x y : Value} (r : RepV G (φ ++ ψ) v x) (r' : RepV G₀ φ v y) : RepV G φ v x := by
  induction r using RepV.casesOn with
  | d r => exact .d r
  | hd e => exact r'.hd_ fun p hp => by cases (l0 hp).symm.trans e; exact .hd hp
theorem MOk.less {h h₀ : Heap} {p p' : Addr × Addr} {mo : MO} (m : MOk W G (φ ++ ψ) h p mo) : MOk W G₀ φ h₀ p' mo → MOk W G φ h p mo := by
  induction m using MOk.casesOn with
  | list g z r => exact fun _ => .list g z r
  | hls g z r => exact fun m' => by cases m' with | hls _ _ r' => exact .hls g z (r.both (fun _ _ _ a b => RepV.less a b) r')
  | imap g e z => exact fun _ => .imap g e z
  | bmap g z e => exact fun _ => .bmap g z e
  | tmap g ex d e ks nd z v => exact fun _ => .tmap g ex d e ks nd z v
  | inst g g' k r ne => exact fun m' => m'.inst_ fun _ _ _ _ _ _ r' _ => .inst g g' k (r.both (fun _ _ _ a b => RepV.less a b) r') ne
  | frz r => exact fun _ => .frz r
theorem Go.drop {p : Addr × Addr} {x : MO} {s : Shared} (R : RelH W c) (g : Go X W c ⟨G, c.φ ++ [p], c.σ ++ [x], s⟩) : Go X W c ⟨G, c.φ, c.σ, s⟩ := by
  have up : ∀ {k a}, eK c.φ c.σ k a → eK (c.φ ++ [p]) (c.σ ++ [x]) k a := fun ⟨a, b, o⟩ => ⟨l0 a, l0 b, o⟩
  exact ⟨⟨g.s, g.g, fun _ _ e => e, g.keep, g.alive, fun b ⟨k, m⟩ => g.mine b ⟨k, up m⟩, g.ice⟩, ⟨g.H.base, g.H.fz, R.len, fun a b => (g.H.objs (l0 a) (l0 b)).less (R.objs a b), fun a b => g.H.one (up a) (up b), fun a => g.H.off (up a)⟩⟩
theorem PLe.snoc : ∀ {φ ψ : rD}, PLe φ ψ → ψ.length = φ.length + 1 → ∃ p, ψ = φ ++ [p]
  | [], [p], _, _ => ⟨p, rfl⟩
  | a :: φ, b :: ψ, h, l => by
    obtain ⟨p, rfl⟩ := PLe.snoc (φ := φ) (ψ := ψ) (fun k q e => h (k + 1) q e) (fI.inj l)
    cases h 0 a rfl
    exact ⟨p, rfl⟩
theorem Be (R : RelH W c) {k C : Nat} {p : Addr × Addr} {ds : List D} (h1 : c.φ[k]? = some p) (h2 : c.σ[k]? = some (.inst C (ds.map .d))) : ∃ G', Rep G' (.inst C ds) (.ref p.1) ∧ Go X W c ⟨G', c.φ, c.σ.set k (.frz (.inst C ds)), c.s⟩ := by
  refine (R.objs h1 h2).inst_ fun es n vs g g' kk r ne => ?_
  have o1 := R.off ⟨h1, h2, .inst⟩
  have o2 := R.off ⟨h1, h2, .flds⟩
  have kG : Ak c.G fun a => if a = p.1 ∨ a = p.2 then c.s.heap.get? a else c.G a := fun a o e => by
    by_cases q : a = p.1 ∨ a = p.2
    · rcases q with rfl | rfl
      · cases o1.1.symm.trans e
      · cases o2.1.symm.trans e
    · exact (if_neg q).trans e
  have hx : Rep (fun a => if a = p.1 ∨ a = p.2 then c.s.heap.get? a else c.G a) (.inst C ds) (.ref p.1) := .inst ((if_pos (.inl rfl)).trans g) ((if_pos (.inr rfl)).trans g') kk (r.map.imp fun _ _ r => r.data.mono kG)
  refine ⟨_, hx, R.frz h1 h2 (fun a => ?_) hx⟩
  by_cases q : a = p.1 ∨ a = p.2
  · exact .inl ⟨q.elim (fun e => e ▸ .inst) fun e => e ▸ .flds, if_pos q⟩
  · exact .inr ⟨fun o => q (by cases o; exact .inl rfl; exact .inr rfl), if_neg q⟩
theorem set_last {α : Type} {l : List α} {x y : α} : (l ++ [x]).set l.length y = l ++ [y] := by rw [List.set_append_right _ _ (au _), gT]; rfl
theorem CallP.frz {n f C : Nat} {xs : List V} {σ : List MO} {ds : List D} {Q : VQ} (h : CallP W n f xs σ fun v σ' => v = .hd σ.length ∧ σ' = σ ++ [.inst C (ds.map .d)] ∧ Q (.d (.inst C ds)) σ) : CallP W n f xs σ Q :=
  ⟨fun {A c vs} a R e r => (h.run a R e r).mono fun v s' p => by
    induction p using Post.casesOn with | @mk c' g z =>
    obtain ⟨G', φ', σ', s'⟩ := c'
    induction z using Val.casesOn with | mk rv q =>
    obtain ⟨rfl, e', q⟩ := q
    subst e e'
    obtain ⟨p, rfl⟩ := PLe.snoc g.p (by rw [show φ'.length = _ from g.H.len, ac, R.len]; rfl)
    have hp : (c.φ ++ [p])[c.σ.length]? = some p := R.len ▸ jP
    obtain ⟨G₂, r₂, g₂⟩ := Be (X := []) g.H hp jP
    have g₃ := g.trans g₂
    rw [show (c.σ ++ [MO.inst C (ds.map V.d)]).set c.σ.length _ = _ from set_last] at g₃
    refine rv.hd_ fun p' hp' => ?_
    cases hp.symm.trans hp'
    exact .mk (c' := ⟨G₂, c.φ, c.σ, s'⟩) (Go.drop R g₃) (.mk (.d r₂) q)⟩
end
noncomputable abbrev Wk (W : Wd) : Prop := Wok W rows mks
section
variable {W : Wd} {n a : Nat} {r : tK} {σ σL : List MO} {Q : VQ}
theorem nD {ws : List V} (hW : Wk W) (h : rows.lookup a = some r) (hl : ws.length = r.np) (hm : ws.map (mz []) = ws) (k : r.b (CallP W n) (ws ++ r.dx ++ ay r.nq .un) [] (gM [] 0 σ Q)) : CallP W (n + 1) a ws σ Q := by
  rw [← hm]; exact (hW.fns.at_ h).run (e := 0) (σL := []) hl .nil trivial rfl k
theorem Bm {ws ws' : List V} (m : List Nat) (e : Nat) (hW : Wk W) (h : rows.lookup a = some r) (hl : ws.length = r.np) (hm : ws.map (mz m) = ws') (nd : m.Nodup) (sb : SubL m σ m σL) (hf : σL.all (wK m.length) = true) (k : r.b (CallP W n) (ws ++ r.dx ++ ay r.nq .un) σL (gM m e σ Q)) : CallP W (n + 1) a ws' σ Q := by
  rw [← hm]; exact (hW.fns.at_ h).run hl nd sb hf k
theorem cy {p : Prop} {i : Decidable p} {A B : Prop} (h : p) (q : A) : tT (@decide p i) A B := cnd_y h q
theorem cn {p : Prop} {i : Decidable p} {A B : Prop} (h : ¬ p) (q : B) : tT (@decide p i) A B := cnd_n h q
theorem iH {t : TX} {b : SX} {ρ : List V} {σ : List MO} {Q : FX} (m : Nat) (h : cW t b m ρ σ Q) : tQ t b ρ σ Q := ⟨m, h⟩
theorem ef {b : SX} {i : Nat} {ρ : List V} {σ : List MO} {Q : FX} {d : D} {ds : List D} (h : jG d = some ds) (k : gl b i ds ρ σ Q) : for2 b i ρ Q d σ := vh h k
end
section
variable {W : Wd} {n C f : Nat} {r : tK} {ws : List V} {σ : List MO} {Q : VQ}
theorem vt (e : Nat) (hW : Wk W) (h1 : mks.lookup C = some f) (h2 : rows.lookup f = some r) (hl : ws.length + 1 = r.np) (hm : ws.map (mz [σ.length]) = ws) (k : r.b (CallP W n) (.hd 0 :: ws ++ r.dx ++ ay r.nq .un) [.inst C []] (gM [σ.length] e (σ ++ [.inst C []]) fun v σ' => v = .d .none ∧ Q (.hd σ.length) σ')) : CallP W (n + 2) C ws σ Q :=
  CallP.make (hW.makes.at_ h1) (Bm (ws := .hd 0 :: ws) (σL := [.inst C []]) [σ.length] e hW h2 hl (congrArg (V.hd σ.length :: ·) hm) (bQ _ _) ⟨jP, trivial⟩ rfl k)
theorem ren_d {m : List Nat} : ∀ {ds : List D}, (ds.map V.d).map (mz m) = ds.map .d
  | [] => rfl
  | x :: r => congrArg (V.d x :: ·) ren_d
theorem fit_d {m : Nat} : ∀ {ds : List D}, (ds.map V.d).all (fitV m) = true
  | [] => rfl
  | x :: r => fit_d (ds := r)
theorem retL_d {ds : List D} {ρ : List V} {Q : VQ} (q : Q (.d .none) (σ ++ [.inst C (ds.map .d)])) : gM [σ.length] 0 (σ ++ [.inst C []]) Q .next ρ [.inst C (ds.map .d)] :=
  have e : wbk (qU [σ.length] (σ ++ [.inst C []]) 0) 0 [σ.length] [.inst C (ds.map .d)] (σ ++ [.inst C []]) = σ ++ [.inst C (ds.map .d)] := set_last.trans (by rw [show p9 _ (MO.inst C (ds.map V.d)) = _ from congrArg (MO.inst C) ren_d])
  oj (b := uR (1 + 0) 1) rfl (oj (b := ([MO.inst C (ds.map V.d)].take (1 + 0)).all (wK (1 + 0))) (congrArg (· && true) fit_d) (Eq.mpr (congrArg (Q (.d .none)) e) q))
theorem new_d {ds : List D} (hW : Wk W) (h1 : mks.lookup C = some f) (h2 : rows.lookup f = some r) (hl : ws.length + 1 = r.np) (hm : ws.map (mz [σ.length]) = ws) (k : ∀ F : FX, (∀ ρ, F .next ρ [.inst C (ds.map .d)]) → r.b (CallP W n) (.hd 0 :: ws ++ r.dx ++ ay r.nq .un) [.inst C []] F) (q : Q (.hd σ.length) (σ ++ [.inst C (ds.map .d)])) : CallP W (n + 2) C ws σ Q :=
  vt 0 hW h1 h2 hl hm (k _ fun ρ => retL_d ⟨rfl, q⟩)
theorem yM {ds : List D} (hW : Wk W) (h1 : mks.lookup C = some f) (h2 : rows.lookup f = some r) (hl : ws.length + 1 = r.np) (hm : ws.map (mz [σ.length]) = ws) (k : ∀ F : FX, (∀ ρ, F .next ρ [.inst C (ds.map .d)]) → r.b (CallP W n) (.hd 0 :: ws ++ r.dx ++ ay r.nq .un) [.inst C []] F) (q : Q (.d (.inst C ds)) σ) : CallP W (n + 2) C ws σ Q :=
  CallP.frz (new_d hW h1 h2 hl hm k ⟨rfl, rfl, q⟩)
theorem Ai (hW : Wk W) {a b c d : D} (q : Q (.d (.inst 150 [a, b, c, d])) σ) : CallP W (n + 2) 150 [.d a, .d b, .d c, .d d] σ Q :=
  yM (ds := [a, b, c, d]) hW rfl rfl rfl rfl (fun F h => h _) q
theorem ii (hW : Wk W) {a b c d : D} (q : Q (.d (.inst 359 [a, b, c, d])) σ) : CallP W (n + 2) 359 [.d a, .d b, .d c, .d d] σ Q :=
  yM (ds := [a, b, c, d]) hW rfl rfl rfl rfl (fun F h => h _) q
theorem pR (hW : Wk W) {a b : D} (q : Q (.hd σ.length) (σ ++ [.inst 401 [.d a, .d b, .d (.int 0), .d (.int 0)]])) : CallP W (n + 2) 401 [.d a, .d b] σ Q :=
  new_d (ds := [a, b, .int 0, .int 0]) hW rfl rfl rfl rfl (fun F h => h _) q
end
section
variable {t : TX} {f : EX} {cv : List V} {Q : VQ} {σ : List MO} {α : Type}
theorem qi (emb g : α → D) (l : List α) (h : ∀ x ∈ l, ∀ nx acc, nx (acc ++ [g x]) σ → t (.d (emb x) :: cv) σ (lc3 f (.d (emb x) :: cv) nx acc)) : ∀ {acc : List D}, Q (.d (.lst (acc ++ l.map g))) σ → lcP t f cv Q (l.map emb) acc σ := by
  induction l with
  | nil => exact fun {acc} q => by rw [xp, ar] at q; exact q
  | cons x r ih => exact fun {acc} q => h x (.head _) _ _ (ih (fun y m => h y (.tail _ m)) (by rw [ag]; exact q))
theorem jX (emb : α → D) (p : α → Bool) (l : List α) (h : ∀ x ∈ l, ∀ nx acc, (∀ b, p x = b → nx (cond b (acc ++ [emb x]) acc) σ) → t (.d (emb x) :: cv) σ (lc3 f (.d (emb x) :: cv) nx acc)) : ∀ {acc : List D}, Q (.d (.lst (acc ++ (l.filter p).map emb))) σ → lcP t f cv Q (l.map emb) acc σ := by
  induction l with
  | nil => exact fun {acc} q => by rw [List.filter_nil, xp, ar] at q; exact q
  | cons x r ih =>
    exact fun {acc} q => h x (.head _) _ _ fun b e => by
      rw [List.filter_cons, e] at q
      refine ih (fun y m => h y (.tail _ m)) ?_
      induction b using Bool.casesOn with
      | true => rw [cond_true, ag]; exact q
      | false => exact q
theorem i6 {caps : List Nat} {ρ : List V} {ds : List D} {d : D} (h : jG d = some ds) (z : ds.length ≤ 16777216) (k : lcP t f (ya caps ρ) Q ds [] σ) : lc2 caps t f ρ Q d σ := vh h ⟨z, k⟩
end
noncomputable abbrev Ln := List UInt8
noncomputable def cb : Ln → Ln × Ln
  | [] => ([], [])
  | x :: r => if x = 10 then ([x], r) else ((x :: (cb r).1), (cb r).2)
theorem kx : ∀ l, (cb l).1 ++ (cb l).2 = l
  | [] => rfl
  | x :: r => by
    unfold cb; split
    · rfl
    · simp [kx r]
theorem qQ : ∀ {l : Ln}, l ≠ [] → (cb l).1 ≠ []
  | [], h => (h rfl).elim
  | x :: r, _ => by unfold cb; split <;> simp
theorem od {l : Ln} (h : l ≠ []) : (cb l).2.length < l.length := by
  have := congrArg dV (kx l)
  have h2 := bP.mpr (qQ h)
  simp at this; exact aH (.e (.a .A .B) .C (.t .O .A (.q .B .C))) rf [_,_,_] [] this h2
noncomputable def bU : Ln → List Ln
  | [] => []
  | x :: r => if x = 10 then [x] :: bU r else match bU r with
    | [] => [[x]]
    | l :: ls => (x :: l) :: ls
theorem jv : bU [] = [] := rfl
theorem gh : ∀ {l : Ln}, l ≠ [] → bU l = (cb l).1 :: bU (cb l).2
  | [], h => (h rfl).elim
  | x :: r, _ => by
    by_cases h : x = 10
    · have e1 : bU (x :: r) = [x] :: bU r := if_pos h
      have e2 : cb (x :: r) = ([x], r) := if_pos h
      rw [e1, e2]
    · have e1 : bU (x :: r) = match bU r with | [] => [[x]] | l :: ls => (x :: l) :: ls := if_neg h
      have e2 : cb (x :: r) = (x :: (cb r).1, (cb r).2) := if_neg h
      rw [e1, e2]
      induction r using List.casesOn with
      | nil => rfl
      | cons y r => rw [gh (io y r)]
theorem vv (l : Ln) : (bU l).flatten = l := by
  induction hn : l.length using Nat.strongRecOn generalizing l with
  | _ n ih =>
    by_cases h : l = []
    · subst h; rw [jv]; rfl
    · rw [gh h, b6, ih _ (by rw [← hn]; exact od h) _ rfl, kx]
theorem xT (l : Ln) : ∀ x ∈ bU l, x ≠ [] := by
  induction hn : l.length using Nat.strongRecOn generalizing l with
  | _ n ih =>
    by_cases h : l = []
    · subst h; rw [jv]; simp
    · rw [gh h]
      intro x hx
      rcases bc.mp hx with rfl | hx
      · exact qQ h
      · exact ih _ (by rw [← hn]; exact od h) _ rfl x hx
theorem Bp {ls : List Ln} (h : ∀ x ∈ ls, x ≠ []) : ls.length ≤ ls.flatten.length := by
  induction ls with
  | nil => simp
  | cons a r ih =>
    have h1 := bP.mpr (h a List.mem_cons_self)
    have h2 := ih fun x m => h x (List.mem_cons_of_mem _ m)
    simp; simp at h2; exact aH (.l .A .B (.t .O .C (.p (.a .A .I) (.a .C .B)))) rf [_,_,_] [] h2 h1
theorem lO (l : Ln) : (bU l).length ≤ l.length := by
  have := Bp (xT l)
  rwa [vv] at this
noncomputable def n9 : Ln → Option Nat
  | [] => none
  | x :: r => if x = 10 then some 0 else (n9 r).map (· + 1)
theorem pd : ∀ l, (cb l).1.length = match n9 l with | some i => i + 1 | none => l.length
  | [] => rfl
  | x :: r => by
    unfold cb n9
    have := pd r
    by_cases h : x = 10
    · simp [h]
    · simp only [h, if_false, ao, this]
      cases n9 r <;> simp
theorem zT (c : UInt8) (l : Ln) : (ij l.length).find? (fun i => decide (l[i]? = some c)) = l.findIdx? (· == c) := by
    cases h : l.findIdx? (· == c) with
    | none =>
      rw [List.findIdx?_eq_none_iff] at h
      rw [List.find?_range_eq_none]
      intro i hi
      have := h l[i] (List.getElem_mem hi)
      simp only [aO hi]
      simpa using this
    | some i =>
      rw [List.findIdx?_eq_some_iff_getElem] at h
      obtain ⟨hi, h1, h2⟩ := h
      rw [List.find?_range_eq_some]
      refine ⟨by simp [aO hi]; simpa using h1, by simpa using hi, fun j hj => ?_⟩
      have := h2 j hj
      simp [aO (Nat.lt_trans hj hi)]
      simpa using this
theorem ext_one (l : Ln) (i : Nat) (c : UInt8) : (l.toArray.extract i (i + 1) == [c].toArray) = decide (l[i]? = some c) := by
  rw [show l.toArray.extract i (i + 1) = ((l.drop i).take 1).toArray by simp]
  cases h : l[i]? with
  | none =>
    have := fM.mp h
    rw [xr this]; rfl
  | some x =>
    obtain ⟨hi, e⟩ := aQ.mp h
    rw [dP hi, e]
    by_cases q : x = c
    · subst q; simp
    · simp [q]
theorem s9 (pre rest : Ln) (c : UInt8) : BM.findW (pre ++ rest).toArray [c].toArray (some (pre.length : Int)) = match rest.findIdx? (· == c) with | some i => ((pre.length + i : Nat) : Int) | none => -1 := by
  unfold BM.findW
  have w1 : Builtin.Bytes.window (pre ++ rest).toArray.size (some (pre.length : Int)) none = ((pre.length : Int), ((pre ++ rest).length : Int)) := by
    simp only [Builtin.Bytes.window, Option.getD, aX]
    rw [if_neg (by exact bh.mpr (aH (.P .O (.c .A)) rf [_] [])), if_neg (by exact bh.mpr (aH (.P .O (.c .A)) rf [_] []))]
    simp
  rw [w1]
  dsimp only
  by_cases hr : rest = []
  · subst hr
    rw [if_pos (by simp)]; simp
  · have hl := bP.mpr hr
    rw [if_neg (by simp; exact aH (.t .O .A (.P .I (.s (.a (.c .B) (.c .A)) (.c .B)))) rf [_,_] [] hl)]
    unfold Builtin.Bytes.find?
    rw [show ((pre ++ rest).length : Int).toNat + 1 - ((pre.length : Int).toNat + [c].toArray.size) = rest.length by simp; exact (l7 ..).elim (fun h3 => aH (.u (.c .A) (.a (.c .B) (.c .C)) (.e (.a .D .B) .A (.o .D .C))) rf [_,_,_,_] [] (aE (aH (.P .O (.a (.c .A) (.c .B))) rf [_,_] [])) (aJ h3)) fun h3 => aH (.u (.c .A) (.a (.c .B) (.c .C)) (.e (.a .D .B) .A (.o .D .C))) rf [_,_,_,_] [] (aE (aH (.P .O (.a (.c .A) (.c .B))) rf [_,_] [])) (aJ (aH (.w (.a (.c .A) (.c .B)) (.c .C) (.p .A .C)) rf [_,_,_] [] (aE (aH (.P .O (.a (.c .A) (.c .B))) rf [_,_] []))))]
    rw [List.find?_map]
    have e : (fun i => (pre ++ rest).toArray.extract i (i + [c].toArray.size) == [c].toArray) ∘ (fun x => x + (pre.length : Int).toNat) = fun i => decide (rest[i]? = some c) := by
      funext i
      show ((pre ++ rest).toArray.extract (i + (pre.length : Int).toNat) (i + (pre.length : Int).toNat + 1) == [c].toArray) = _
      rw [ext_one]
      rw [show i + (pre.length : Int).toNat = pre.length + i by exact aH (.u (.c .A) (.c .B) (.o (.a .C .A) (.a .B .C))) rf [_,_,_] [] (aE (aH (.P .O (.c .A)) rf [_] [])), bp (ai _ _), cQ]
    rw [e, zT]
    cases rest.findIdx? (· == c) with
    | none => rfl
    | some i => simp; exact aH (.O (.a (.c .A) (.c .B)) (.a (.c .B) (.c .A))) rf [_,_] []
theorem tc : ∀ l : Ln, l.findIdx? (· == 10) = n9 l
  | [] => rfl
  | x :: r => by
    rw [eO]; unfold n9
    rw [tc r]
    by_cases h : x = 10 <;> simp [h]
theorem lW (n i : Nat) : kms_lo (some (i : Int)) n = min i n := by
  show (if (i : Int) < 0 then n - (-(i : Int)).toNat else min (i : Int).toNat n) = _
  rw [if_neg (bh.mpr (av i))]; rfl
theorem qp (n i : Nat) : kms_hi (some (i : Int)) n = min i n := lW n i
theorem pW {α : Type} (pre mid post : List α) : a9 (pre ++ mid ++ post) (some (pre.length : Int)) (some ((pre.length + mid.length : Nat) : Int)) = mid := by
  unfold a9
  have e : min pre.length (pre.length + mid.length + post.length) = pre.length := dt (ab (ai _ _) (ai _ _))
  rw [lW, qp, ac, ac, e, dt (ai _ _), cQ, ag, nQ, nJ]
section
variable {W : Wd} {n : Nat} {σ : List MO} {Q : VQ}
noncomputable def c5 (l : List Ln) : D := .lst (l.map .bytes)
theorem xS {b : Ln} {Q : FX} (hb : b.length ≤ 1000000) (q : ∀ e, Q .next [.d (.bytes b), .hd 0, .d (.int b.length), e] [.list ((bU b).map .bytes)]) : ∀ (k : Nat) {pre rest : Ln} {acc : List Ln} (e : V), rest.length < k → pre ++ rest = b → acc ++ bU rest = bU b →
    cW kD kB k [.d (.bytes b), .hd 0, .d (.int pre.length), e] [.list (acc.map .bytes)] Q := by
  intro k
  induction k with
  | zero => exact fun _ h => (gc _ h).elim
  | succ k ih =>
    intro pre rest acc e hk h1 h2
    refine af (.lenB _) ?_
    by_cases hr : rest = []
    · subst hr
      rw [ar] at h1
      rw [jv, ar] at h2
      subst h1 h2
      exact cn (dF _) (q e)
    · have hf := s9 pre rest 10
      rw [tc, h1] at hf
      have hc := pd rest
      have he := kx rest
      have hl : (pre ++ (cb rest).1).length = pre.length + (cb rest).1.length := ac
      have hb' : b.length = pre.length + rest.length := h1 ▸ ac
      have F : ∀ E : Int, E = (pre ++ (cb rest).1).length → pj [.d (.bytes b), .hd 0, .d (.int pre.length), .d (.int E)] [.list (acc.map .bytes)] (nB (cW kD kB k) Q) := by
        intro E hE
        subst hE
        rw [gh hr] at h2
        have hs := pW pre (cb rest).1 (cb rest).2
        rw [ag, he, h1, ← hl] at hs
        refine bH (.bytes _) ?_
        rw [hs]
        refine af (.append rfl ?_) ?_
        · have := lO b
          rw [← h2, ac, ao] at this
          rw [ah]; exact aH (.l (.a .A (.a .B .I)) .C (.l .C (.n 1000000) (.q .A (.n 16777216)))) rf [_,_,_] [] this hb
        · have := ih (rest := (cb rest).2) (acc := acc ++ [(cb rest).1]) (.d (.int (pre ++ (cb rest).1).length)) (ax (od hr) (dY hk)) (by rw [ag, he, h1]) (by rw [ag]; exact h2)
          rw [aB] at this
          exact this
      have hp := bP.mpr hr
      refine cy (by exact aH (.i (.a .A .B) .C (.t .O .B (.Q (.c .A) (.c .C)))) rf [_,_,_] [] hb' hp) ?_
      refine af (.find3 _ _ _) ?_
      rw [hf]
      cases hfa : n9 rest with
      | none =>
        refine cy (show (-1 : Int) < 0 by decide) ?_
        refine af (.lenB _) ?_
        exact F _ (by rw [hl, hc, hfa, hb'])
      | some i =>
        refine cn (show ¬ ((pre.length + i : Nat) : Int) < 0 by exact bh.mpr (aH (.P .O (.c (.a .A .B))) rf [_,_] [])) ?_
        exact F _ (by rw [hl, hc, hfa]; rfl)
theorem g9 (hW : Wk W) {b : Ln} (hb : b.length ≤ 1000000) (q : Q (.d (c5 (bU b))) σ) : CallP W (n + 1) 83 [.d (.bytes b)] σ Q := by
  refine nD hW rfl rfl rfl ?_
  refine af (.hd rfl) ?_
  refine iH (b.length + 1) ?_
  exact xS hb (fun e => q) (b.length + 1) (pre := []) (acc := []) .un (bw _) rfl rfl
noncomputable def chN (c : Char) : Int := c.toNat
theorem qJ {Q : FX} {v : V} {σ : List MO} : ∀ (cs : List Char) {u : V}, (∀ c ∈ cs, c.toNat < 256) → (∀ u, Q .next [v, .d (.lst l), u] σ) → gl nG 2 (cs.map fun c => .int (chN c)) [v, .d (.lst l), u] σ Q
  | [], u, _, q => q u
  | c :: r, u, h, q => by
    refine cn ?_ (qJ r (fun x m => h x (.tail _ m)) q)
    have := h c (.head _)
    show ¬ (255 : Int) < (c.toNat : Int)
    exact bh.mpr (aH (.t .A (.n 256) (.P (.c .A) (.n 255))) rf [_] [] this)
theorem vm (hW : Wk W) {t : String} (hb : t.length ≤ 1000) (ht : ∀ c ∈ t.toList, c.toNat < 256) (q : Q (.d (.bytes (t.toList.map fun c => c.toNat.toUInt8))) σ) : CallP W (n + 1) 71 [.d (.str t)] σ Q := by
  have hz : t.toList.length ≤ 16777216 := by rw [t.length_toList]; exact aH (.l .A (.n 1000) (.p .A (.n 16777216))) rf [_] [] hb
  refine nD hW rfl rfl rfl ?_
  refine i6 (d := .str t) (ds := t.toList.map fun c => .str (String.singleton c)) rfl (ab (aW (ah _)) hz) ?_
  refine qi (fun c => .str (String.singleton c)) (fun c => .int (chN c)) t.toList (fun c _ nx acc h => a6 rfl (af (.ord c) h)) ?_
  refine ef rfl ?_
  refine qJ t.toList ht fun u => ?_
  refine af (.bytesI (ns := t.toList.map chN) (by rw [ji]; rfl) fun x hx => ?_) ?_
  · obtain ⟨c, hc, rfl⟩ := gK.mp hx
    have := ht c hc
    unfold chN
    exact ⟨aH (.P .O (.c .A)) rf [_] [], aH (.t .A (.n 256) (.Q (.c .A) (.n 256))) rf [_] [] this⟩
  · rw [ji]; exact q
end
section
variable {W : Wd} {n : Nat} {σ : List MO} {Q : VQ}
theorem yc (x : Int) (h : 0 ≤ x) (h' : x < 256) : Builtin.bitAnd x 255 = x := by
  have : ∀ n : Fin 256, Builtin.bitAnd (n.val : Int) 255 = n.val := by decide +kernel
  have := this ⟨x.toNat, by exact aH (.u (.c .A) .A (.T .A (.n 256) (.q .A (.n 256)))) rf [_] [_] (aE h) h'⟩
  simpa [aE h] using this
theorem tW (hW : Wk W) {x : Int} (h0 : 0 ≤ x) (hx : x < 256) (q : Q (.d (.bytes [0, 0, 0, x.toNat.toUInt8])) σ) : CallP W (n + 1) 76 [.d (.int x), .d (.int 4)] σ Q := by
  have z : ∀ k : Int, 256 ≤ k → Builtin.bitAnd (x.fdiv k) 255 = 0 := fun k hk => by
    rw [jS _ (b9 (by decide) hk), Int.ediv_eq_zero_of_lt h0 (qD hx hk)]; rfl
  refine nD hW rfl rfl rfl ?_
  refine af (.range1 _) ?_
  refine i6 (d := .rng 0 4 1) (ds := [.int 0, .int 1, .int 2, .int 3]) rfl (by decide) ?_
  have one : ∀ (i : Int) (v : Int), 0 ≤ 8 * (4 - 1 - i) → Builtin.bitAnd (x.fdiv (2 ^ (8 * (4 - 1 - i)).toNat)) 255 = v → ∀ nx acc, nx (acc ++ [.int v]) [] → dh [.d (.int i), .d (.int 4), .d (.int x)] [] (lc3 (aV .BitAnd (aV .RShift (eV 2) (aV .Mult (eC (.int 8)) (aV .Sub (aV .Sub (eV 1) (eC (.int 1))) (eV 0)))) (eC (.int 255))) [.d (.int i), .d (.int 4), .d (.int x)] nx acc) := fun i v hi hv nx acc h => by
    refine a6 rfl (af (.mulI (by decide)) (af (.shrI hi) (af .andI ?_)))
    rw [hv]; exact h
  refine one 0 0 (by decide) (z _ (by decide)) _ _ (one 1 0 (by decide) (z _ (by decide)) _ _ (one 2 0 (by decide) (z _ (by decide)) _ _ (one 3 x (by decide) ?_ _ _ ?_)))
  · rw [show (2 : Int) ^ (8 * (4 - 1 - (3 : Int))).toNat = 1 by decide, Int.fdiv_one]; exact yc x h0 hx
  · refine af (.bytesI (ns := [0, 0, 0, x]) rfl fun y hy => ?_) q
    rcases bc.mp hy with rfl | hy
    · decide
    rcases bc.mp hy with rfl | hy
    · decide
    rcases bc.mp hy with rfl | hy
    · decide
    cases am.mp hy
    exact ⟨h0, hx⟩
noncomputable def tS (m : Ln → Option Int) (z : Nat) (b : Ln) : Int := (m b).getD (z + 1)
noncomputable def tM (m : Ln → Option Int) (z : Nat) (b : Ln) : Ln → Option Int := fun x => if x = b then some (tS m z b) else m x
noncomputable def dz (m : Ln → Option Int) (z : Nat) (b : Ln) : Nat := if (m b).isSome then z else z + 1
structure HsAt (σ : List MO) (k j : Nat) (m : Ln → Option Int) (z : Nat) : Prop where
  i : σ[k]? = some (.inst 108 [.d (.int 4), .hd j])
  b : σ[j]? = some (.bmap m z)
  lim : ∀ x y, m x = some y → 1 ≤ y ∧ y ≤ z
theorem dL {α : Type} {l : List α} {k : Nat} {x : α} (h : l[k]? = some x) : l.set k x = l := by
  obtain ⟨h1, rfl⟩ := aQ.mp h
  exact List.set_getElem_self h1
theorem uH (hW : Wk W) {k j z : Nat} {m : Ln → Option Int} {b : Ln} (H : HsAt σ k j m z) (hz : z < 200) (q : Q (.d (.bytes [0, 0, 0, (tS m z b).toNat.toUInt8])) (σ.set j (.bmap (tM m z b) (dz m z b)))) : CallP W (n + 2) 105 [.hd k, .d (.bytes b)] σ Q := by
  have ne : k ≠ j := fun e => by subst e; cases H.i.symm.trans H.b
  refine Bm (ws := [.hd 0, .d (.bytes b)]) (σL := [.inst 108 [.d (.int 4), .hd 1], .bmap m z]) [k, j] 0 hW rfl rfl rfl (bt.mpr ⟨fun e => ne (am.mp e), bQ _ _⟩) ⟨H.i, H.b, trivial⟩ rfl ?_
  refine af (.bytesB _) ?_
  have hd : tM m z b b = some (tS m z b) := if_pos rfl
  have hl : 0 ≤ tS m z b ∧ tS m z b < 256 := by
    unfold tS
    cases e : m b with
    | none => rw [Option.getD_none]; exact ⟨aH (.P .O (.a (.c .A) .I)) rf [_] [], aH (.t .A (.n 200) (.Q (.a (.c .A) .I) (.n 256))) rf [_] [] hz⟩
    | some y => have := H.lim _ _ e; rw [Option.getD_some]; exact ⟨aH (.L .I .A (.P .O .A)) rf [] [_] this.1, aH (.L .A (.c .A) (.t .A (.n 200) (.Q .A (.n 256)))) rf [_] [_] this.2 hz⟩
  have fin : fy (CallP W (n + 1)) [.hd 0, .d (.bytes b), .d (.bytes b)] [.inst 108 [.d (.int 4), .hd 1], .bmap (tM m z b) (dz m z b)] (gM [k, j] 0 σ Q) := by
    refine aM (.bmap rfl hd) ?_
    refine tW hW hl.1 hl.2 ?_
    show Q _ ((σ.set k (.inst 108 [.d (.int 4), .hd j])).set j _)
    rw [dL H.i]; exact q
  refine aw (.nmem (.bmap rfl)) ?_
  cases e : m b with
  | some y =>
    refine aN rfl ?_
    have e1 : tM m z b = m := by
      funext x
      unfold tM tS
      rw [e]
      by_cases h : x = b
      · rw [if_pos h, h, e]; rfl
      · exact if_neg h
    have e2 : dz m z b = z := by unfold dz; rw [e]; rfl
    rw [e1, e2] at fin
    exact fin
  | none =>
    refine a6 rfl ?_
    refine af (.lenM rfl (by exact aH (.t .A (.n 200) (.p .A (.n 16777216))) rf [_] [] hz)) ?_
    refine pX (.bmap rfl (by exact aH (.t .A (.n 200) (.q .A (.n 16777216))) rf [_] [] hz) e) ?_
    have e1 : tM m z b = yD m b (z + 1) := by
      funext x
      unfold tM tS
      rw [e]; rfl
    have e2 : dz m z b = z + 1 := by unfold dz; rw [e]; rfl
    rw [e1, e2] at fin
    exact fin
theorem sX (hW : Wk W) (q : Q (.hd σ.length) (σ ++ [.inst 108 [.d (.int 4), .hd (σ.length + 1)], .bmap (fun _ => none) 0])) : CallP W (n + 2) 108 [.d (.int 4)] σ Q := by
  refine vt 1 hW rfl rfl rfl rfl ?_
  refine af .bmap ?_
  refine ⟨rfl, ?_⟩
  show Q _ ((σ ++ [MO.inst 108 []]).set σ.length (MO.inst 108 [.d (.int 4), .hd (σ ++ [MO.inst 108 []]).length]) ++ [MO.bmap (fun _ => none) 0])
  rw [set_last, ac, ag]; exact q
end
structure NumOk (m : Ln → Option Int) (c : Nat) : Prop where
  lim : ∀ x i, m x = some i → 0 ≤ i ∧ i < c
  inj : ∀ x y i, m x = some i → m y = some i → x = y
noncomputable def TLe (m m' : Ln → Option Int) : Prop := ∀ x i, m x = some i → m' x = some i
theorem NumOk.up {m : Ln → Option Int} {c : Nat} {b : Ln} (ok : NumOk m c) (h : m b = none) : NumOk (yD m b c) (c + 1) ∧ TLe m (yD m b c) := by
  have up : ∀ {x i}, yD m b c x = some i → (x = b ∧ i = c) ∨ (x ≠ b ∧ m x = some i) := fun {x i} e => by
    unfold yD at e
    by_cases q : x = b
    · rw [if_pos q] at e; exact .inl ⟨q, (cm.inj e).symm⟩
    · rw [if_neg q] at e; exact .inr ⟨q, e⟩
  refine ⟨⟨fun x i e => ?_, fun x y i e e' => ?_⟩, fun x i e => ?_⟩
  · rcases up e with ⟨_, rfl⟩ | ⟨_, e⟩
    · exact ⟨aH (.P .O (.c .A)) rf [_] [], aH (.Q (.c .A) (.c (.a .A .I))) rf [_] []⟩
    · have := ok.lim x i e; exact ⟨aH (.L .O .A (.P .O .A)) rf [] [_] this.1, aH (.T .A (.c .A) (.Q .A (.c (.a .A .I)))) rf [_] [_] this.2⟩
  · rcases up e with ⟨x1, z1⟩ | ⟨_, e1⟩ <;> rcases up e' with ⟨x2, z2⟩ | ⟨_, e2⟩
    · exact x1.trans x2.symm
    · exact absurd (z1 ▸ (ok.lim _ _ e2).2) (dF _)
    · exact absurd (z2 ▸ (ok.lim _ _ e1).2) (dF _)
    · exact ok.inj x y i e1 e2
  · exact (if_neg fun q => by rw [q, h] at e; cases e).trans e
noncomputable abbrev sK (j js c : Nat) : MO := .inst 183 [.hd j, .hd js, .d (.int c)]
section
variable {W : Wd} {n : Nat} {σ : List MO} {Q : VQ}
theorem vn (hW : Wk W) {k j js c : Nat} {m : Ln → Option Int} {b : Ln} (nd : [k, j, js].Nodup) (h1 : σ[k]? = some (sK j js c)) (h2 : σ[j]? = some (.tmap m c)) (h3 : σ[js]? = some (.list [])) (ok : NumOk m c) (hz : c < 1000000)
    (q : ∀ m' c' i, NumOk m' c' → c' ≤ c + 1 → TLe m m' → m' b = some i → Q (.d (.int i)) (((σ.set k (sK j js c')).set j (.tmap m' c')).set js (.list []))) : CallP W (n + 1) 175 [.hd k, .d (.bytes b)] σ Q := by
  refine Bm (ws := [.hd 0, .d (.bytes b)]) (σL := [sK 1 2 c, .tmap m c, .list []]) [k, j, js] 0 hW rfl rfl rfl nd ⟨h1, h2, h3, trivial⟩ rfl ?_
  refine af (.isiB _) (a6 rfl (af (.isiS _) ?_))
  refine aw (.nmem (.tmap rfl)) ?_
  cases e : m b with
  | some y =>
    refine aN rfl ?_
    exact aM (.tmap rfl e) (q m c y ok (bO _) (fun _ _ e => e) e)
  | none =>
    refine a6 rfl ?_
    refine pX (.tmap rfl (by exact aH (.t .A (.n 1000000) (.q .A (.n 16777216))) rf [_] [] hz) e) ?_
    exact aM (.tmap rfl (if_pos rfl)) (q _ (c + 1) c (ok.up e).1 (au _) (ok.up e).2 (if_pos rfl))
theorem oW (hW : Wk W) {Q : VQ} : ∀ (ls : List Ln) {m : Ln → Option Int} {c : Nat} {acc : List Int}, NumOk m c → c + ls.length < 1000000 → (∀ m' c' is, NumOk m' c' → c' ≤ c + ls.length → TLe m m' → All2 (fun x i => m' x = some i) ls is → Q (.d (.lst ((acc ++ is).map .int))) [sK 1 2 c', .tmap m' c', .list []]) →
    lcP dh (fg (CallP W (n + 1)) [(183, 175)] (eV 1) (ae (eV 0) ak)) [.hd 0] Q (ls.map .bytes) (acc.map .int) [sK 1 2 c, .tmap m c, .list []]
  | [], m, c, acc, ok, _, q => by
    have := q m c [] ok (au _) (fun _ _ e => e) .nil
    rw [ar] at this; exact this
  | b :: r, m, c, acc, ok, hz, q => by
    rw [ao] at hz
    refine a6 rfl (vn hW (k := 0) (j := 1) (js := 2) (by decide) rfl rfl rfl ok (by exact aH (.t (.a .A (.a .B .I)) (.n 1000000) (.q .A (.n 1000000))) rf [_,_] [] hz) fun m' c' i ok' le tl hi => ?_)
    have := oW hW r (acc := acc ++ [i]) ok' (by exact aH (.t (.a .A (.a .B .I)) (.n 1000000) (.l .C (.a .A .I) (.q (.a .C .B) (.n 1000000)))) rf [_,_,_] [] hz le) (Q := Q) fun m'' c'' is ok'' le' tl' al => ?_
    · rw [aB] at this; exact this
    · rw [ag]
      exact q m'' c'' (i :: is) ok'' (by rw [ao]; exact aH (.l .A (.a .B .C) (.l .B (.a .D .I) (.p .A (.a .D (.a .C .I))))) rf [_,_,_,_] [] le' le) (fun x i e => tl' _ _ (tl x i e)) (.cons (tl' _ _ hi) al)
theorem nA (hW : Wk W) {k j js c : Nat} {m : Ln → Option Int} {ls : List Ln} (nd : [k, j, js].Nodup) (h1 : σ[k]? = some (sK j js c)) (h2 : σ[j]? = some (.tmap m c)) (h3 : σ[js]? = some (.list [])) (ok : NumOk m c) (hz : c + ls.length < 1000000)
    (q : ∀ m' c' is, NumOk m' c' → c' ≤ c + ls.length → TLe m m' → All2 (fun x i => m' x = some i) ls is → Q (.d (.lst (is.map .int))) (((σ.set k (sK j js c')).set j (.tmap m' c')).set js (.list []))) : CallP W (n + 2) 180 [.hd k, .d (c5 ls)] σ Q := by
  refine Bm (ws := [.hd 0, .d (c5 ls)]) (σL := [sK 1 2 c, .tmap m c, .list []]) [k, j, js] 0 hW rfl rfl rfl nd ⟨h1, h2, h3, trivial⟩ rfl ?_
  refine i6 (d := c5 ls) (ds := ls.map .bytes) rfl (by rw [ah]; exact aH (.t (.a .A .B) (.n 1000000) (.p .B (.n 16777216))) rf [_,_] [] hz) ?_
  exact oW hW ls (acc := []) ok hz fun m' c' is a b d e => q m' c' is a b d e
end
noncomputable abbrev jT (A B : List Int) (k1 k2 : Nat) : MO := .inst 281 [.d (.lst (A.map .int)), .d (.lst (B.map .int)), .hd k1, .hd k2]
noncomputable abbrev eX (l : List Bool) : MO := .list (l.map D.bool)
structure ShAt (σ : List MO) (k : Nat) (A B : List Int) (k1 k2 : Nat) (gone come : List Bool) : Prop where
  i : σ[k]? = some (jT A B k1 k2)
  g : σ[k1]? = some (eX gone)
  c : σ[k2]? = some (eX come)
  n : k1 ≠ k2
theorem p8 {α : Type} (x : α) : ∀ m : Nat, (ay m [x]).flatten = ay m x
  | 0 => rfl
  | m + 1 => congrArg (x :: ·) (p8 x m)
theorem uq (x : Bool) (m : Nat) : (ay m [D.bool x]).flatten = (ay m x).map D.bool := (p8 _ m).trans List.map_replicate.symm
section
variable {W : Wd} {n : Nat} {σ : List MO} {Q : VQ}
theorem rJ (hW : Wk W) (q : Q (.hd σ.length) (σ ++ [sK (σ.length + 1) (σ.length + 2) 0, .tmap (fun _ => none) 0, .list []])) : CallP W (n + 2) 183 [] σ Q := by
  refine vt 2 hW rfl rfl rfl rfl ?_
  refine af .tmap (af (.hd rfl) ⟨rfl, ?_⟩)
  show Q _ ((σ ++ [MO.inst 183 []]).set σ.length (sK (σ ++ [MO.inst 183 []]).length ((σ ++ [MO.inst 183 []]).length + 1) 0) ++ [MO.tmap (fun _ => none) 0, MO.list []])
  rw [set_last, ac, ag]; exact q
theorem ui (hW : Wk W) {la lb : List Ln} (hl : la.length + lb.length < 1000000)
    (q : ∀ A B m c, NumOk m c → All2 (fun x i => m x = some i) la A → All2 (fun x i => m x = some i) lb B → Q (.hd 0) [jT A B 4 5, sK 2 3 c, .tmap m c, .list [], eX (ay la.length false), eX (ay lb.length false)]) :
    CallP W (n + 4) 281 [.d (c5 la), .d (c5 lb)] [] Q := by
  refine vt 5 hW rfl rfl rfl rfl ?_
  refine rJ hW ?_
  refine nA hW (k := 1) (j := 2) (js := 3) (m := fun _ => none) (c := 0) (by decide) rfl rfl rfl ⟨fun _ _ e => bm e, fun _ _ _ e => bm e⟩ (by exact aH (.t (.a .A .B) (.n 1000000) (.q (.a .O .A) (.n 1000000))) rf [_,_] [] hl) fun m c A ok hc tl al => ?_
  refine nA hW (k := 1) (j := 2) (js := 3) (m := m) (c := c) (by decide) rfl rfl rfl ok (by exact aH (.t (.a .A .B) (.n 1000000) (.l .C (.a .O .A) (.q (.a .C .B) (.n 1000000)))) rf [_,_,_] [] hl hc) fun m' c' B ok' hc' tl' bl => ?_
  have e1 : (ay ((la.map D.bytes).length : Int).toNat [D.bool false]).flatten = (ay la.length false).map D.bool := by rw [ah]; exact uq _ _
  have e2 : (ay ((lb.map D.bytes).length : Int).toNat [D.bool false]).flatten = (ay lb.length false).map D.bool := by rw [ah]; exact uq _ _
  refine af (.d rfl) (af (.lenL rfl) (af (.mulH rfl (av _) (by rw [ah]; exact aH (.t (.a .A .B) (.n 1000000) (.P (.c .A) (.n 16777216))) rf [_,_] [] hl) (by rw [ah]; show 1 * la.length ≤ _; exact aH (.t (.a .A .B) (.n 1000000) (.p (.m 1 .A) (.n 16777216))) rf [_,_] [] hl)) ?_))
  rw [e1]
  refine af (.d rfl) (af (.lenL rfl) (af (.mulH rfl (av _) (by rw [ah]; exact aH (.t (.a .A .B) (.n 1000000) (.P (.c .B) (.n 16777216))) rf [_,_] [] hl) (by rw [ah]; show 1 * lb.length ≤ _; exact aH (.t (.a .A .B) (.n 1000000) (.p (.m 1 .B) (.n 16777216))) rf [_,_] [] hl)) ?_))
  rw [e2]
  exact ⟨rfl, q A B m' c' ok' (al.imp fun x i e => tl' _ _ e) bl⟩
end
theorem jx {A : List Int} {x : Int} (h0 : 0 ≤ x) (h1 : x < A.length) : (A.map D.int)[x.toNat]? = some (.int (A.getD x.toNat 0)) := by
  have h : x.toNat < A.length := (rM h0).mpr h1
  rw [bR, fA, aO h]; rfl
noncomputable def gI (A : List Int) (x : Int) : Int := A.getD x.toNat 0
noncomputable def i0 (a b c d : Int) : D := .tup [.int a, .int b, .int c, .int d]
structure Trim (A B : List Int) (a0 a1 b0 b1 u v : Int) : Prop where
  u0 : 0 ≤ u
  v0 : 0 ≤ v
  ua : u + v ≤ a1 - a0
  ub : u + v ≤ b1 - b0
  pre : ∀ i, 0 ≤ i → i < u → gI A (a0 + i) = gI B (b0 + i)
  suf : ∀ i, 0 ≤ i → i < v → gI A (a1 - 1 - i) = gI B (b1 - 1 - i)
  max : a0 + u = a1 ∨ b0 + u = b1 ∨ gI A (a0 + u) ≠ gI B (b0 + u)
  max' : a0 + u = a1 - v ∨ b0 + u = b1 - v ∨ gI A (a1 - v - 1) ≠ gI B (b1 - v - 1)
section
variable {W : Wd} {n : Nat} {σ : List MO} {A B : List Int} {gone come : List Bool}
theorem ShAt.same {k k1 k2 : Nat} (S : ShAt σ k A B k1 k2 gone come) : ((σ.set k (jT A B k1 k2)).set k1 (eX gone)).set k2 (eX come) = σ := by rw [dL S.i, dL S.g, dL S.c]
theorem ShAt.nd {k k1 k2 : Nat} (S : ShAt σ k A B k1 k2 gone come) : [k, k1, k2].Nodup := by
  refine bt.mpr ⟨fun m => ?_, bt.mpr ⟨fun m => S.n (am.mp m), bQ _ _⟩⟩
  have h := S.i
  rcases bc.mp m with e | m
  · rw [e, S.g] at h; cases h
  · rw [am.mp m, S.c] at h; cases h
theorem fnS {a : Nat} {r : tK} {Q : VQ} {k k1 k2 : Nat} {ws ws' : List V} (S : ShAt σ k A B k1 k2 gone come) (hW : Wk W) (h : rows.lookup a = some r) (hl : ws.length = r.np) (hm : ws.map (mz [k, k1, k2]) = ws') (q : r.b (CallP W n) (ws ++ r.dx ++ ay r.nq .un) [jT A B 1 2, eX gone, eX come] (gM [k, k1, k2] 0 σ Q)) : CallP W (n + 1) a ws' σ Q :=
  Bm (ws := ws) (σL := [jT A B 1 2, eX gone, eX come]) [k, k1, k2] 0 hW h hl hm S.nd ⟨S.i, S.g, S.c, trivial⟩ rfl q
theorem trim1 {p : V} {σ : List MO} {a0 a1 b0 b1 : Int} {Q : FX} (hs : σ[0]? = some (jT A B 1 2)) (h1 : 0 ≤ a0) (h3 : a1 ≤ A.length) (h4 : 0 ≤ b0) (h6 : b1 ≤ B.length)
    (q : ∀ u, 0 ≤ u → u ≤ a1 - a0 → u ≤ b1 - b0 → (∀ i, 0 ≤ i → i < u → gI A (a0 + i) = gI B (b0 + i)) → (a0 + u = a1 ∨ b0 + u = b1 ∨ gI A (a0 + u) ≠ gI B (b0 + u)) → Q .next [.hd 0, p, .d (.int (a0 + u)), .d (.int a1), .d (.int (b0 + u)), .d (.int b1)] σ) :
    ∀ (m : Nat) (u : Int), a1 - a0 - u < m → 0 ≤ u → u ≤ a1 - a0 → u ≤ b1 - b0 → (∀ i, 0 ≤ i → i < u → gI A (a0 + i) = gI B (b0 + i)) → cW gD gC m [.hd 0, p, .d (.int (a0 + u)), .d (.int a1), .d (.int (b0 + u)), .d (.int b1)] σ Q := by
  intro m
  induction m with
  | zero => exact fun u hm u0 u1 => by exact (aH (.T (.s (.s .A .B) .C) (.c .O) (.L .C (.s .A .B) .f)) rf [] [_,_,_] hm u1).elim
  | succ m ih =>
    intro u hm u0 u1 u2 u3
    by_cases c1 : a0 + u < a1
    · refine cy c1 ?_
      by_cases c2 : b0 + u < b1
      · refine cy c2 ?_
        refine iz hs (aM (.it rfl (by exact aH (.L .O .A (.L .O .B (.P .O (.a .A .B)))) rf [] [_,_] h1 u0) (jx (by exact aH (.L .O .A (.L .O .B (.P .O (.a .A .B)))) rf [] [_,_] h1 u0) (by exact aH (.T (.a .A .B) .C (.L .C (.c .A) (.Q (.a .A .B) (.c .A)))) rf [_] [_,_,_] c1 h3))) ?_)
        refine iz hs (aM (.it rfl (by exact aH (.L .O .A (.L .O .B (.P .O (.a .A .B)))) rf [] [_,_] h4 u0) (jx (by exact aH (.L .O .A (.L .O .B (.P .O (.a .A .B)))) rf [] [_,_] h4 u0) (by exact aH (.T (.a .A .B) .C (.L .C (.c .A) (.Q (.a .A .B) (.c .A)))) rf [_] [_,_,_] c2 h6))) ?_)
        by_cases c3 : gI A (a0 + u) = gI B (b0 + u)
        · refine cy c3 (a6 rfl ?_)
          have := ih (u + 1) (by exact aH (.T (.s (.s .A .B) .C) (.c (.a .A .I)) (.Q (.s (.s .A .B) (.a .C .I)) (.c .A))) rf [_] [_,_,_] hm) (by exact aH (.L .O .A (.P .O (.a .A .I))) rf [] [_] u0) (by exact aH (.T (.a .A .B) .C (.P (.a .B .I) (.s .C .A))) rf [] [_,_,_] c1) (by exact aH (.T (.a .A .B) .C (.P (.a .B .I) (.s .C .A))) rf [] [_,_,_] c2) fun i h h' => if e : i < u then u3 i h e else by rw [show i = u by exact dX (aH (.T .A (.a .B .I) (.P .A .B)) rf [] [_,_] h') (aH (.L .A .B (.P .A .B)) rf [] [_,_] (bh.mp e))]; exact c3
          rw [← kI, ← kI] at this
          exact this
        · exact cn c3 (aN rfl (q u u0 u1 u2 u3 (.inr (.inr c3))))
      · exact cn c2 (aN rfl (q u u0 u1 u2 u3 (.inr (.inl (by exact dX (aH (.L .A (.s .B .C) (.P (.a .C .A) .B)) rf [] [_,_,_] u2) (aH (.L .A (.a .B .C) (.P .A (.a .B .C))) rf [] [_,_,_] (bh.mp c2)))))))
    · exact cn c1 (aN rfl (q u u0 u1 u2 u3 (.inl (by exact dX (aH (.L .A (.s .B .C) (.P (.a .C .A) .B)) rf [] [_,_,_] u1) (aH (.L .A (.a .B .C) (.P .A (.a .B .C))) rf [] [_,_,_] (bh.mp c1))))))
theorem trim2 {p : V} {σ : List MO} {a0 a1 b0 b1 u : Int} {Q : FX} (hs : σ[0]? = some (jT A B 1 2)) (h1 : 0 ≤ a0 + u) (h3 : a1 ≤ A.length) (h4 : 0 ≤ b0 + u) (h6 : b1 ≤ B.length)
    (q : ∀ v, 0 ≤ v → u + v ≤ a1 - a0 → u + v ≤ b1 - b0 → (∀ i, 0 ≤ i → i < v → gI A (a1 - 1 - i) = gI B (b1 - 1 - i)) → (a0 + u = a1 - v ∨ b0 + u = b1 - v ∨ gI A (a1 - v - 1) ≠ gI B (b1 - v - 1)) → Q .next [.hd 0, p, .d (.int (a0 + u)), .d (.int (a1 - v)), .d (.int (b0 + u)), .d (.int (b1 - v))] σ) :
    ∀ (m : Nat) (v : Int), a1 - a0 - u - v < m → 0 ≤ v → u + v ≤ a1 - a0 → u + v ≤ b1 - b0 → (∀ i, 0 ≤ i → i < v → gI A (a1 - 1 - i) = gI B (b1 - 1 - i)) → cW eQ eP m [.hd 0, p, .d (.int (a0 + u)), .d (.int (a1 - v)), .d (.int (b0 + u)), .d (.int (b1 - v))] σ Q := by
  intro m
  induction m with
  | zero => exact fun v hm v0 v1 => by exact (aH (.T (.s (.s (.s .A .B) .C) .D) (.c .O) (.L (.a .C .D) (.s .A .B) .f)) rf [] [_,_,_,_] hm v1).elim
  | succ m ih =>
    intro v hm v0 v1 v2 v3
    by_cases c1 : a0 + u < a1 - v
    · refine cy c1 ?_
      by_cases c2 : b0 + u < b1 - v
      · refine cy c2 ?_
        refine iz hs (aM (.it rfl (by exact aH (.T (.a .A .B) (.s .C .D) (.L .O (.a .A .B) (.P .O (.s (.s .C .D) .I)))) rf [] [_,_,_,_] c1 h1) (jx (by exact aH (.T (.a .A .B) (.s .C .D) (.L .O (.a .A .B) (.P .O (.s (.s .C .D) .I)))) rf [] [_,_,_,_] c1 h1) (by exact aH (.L .A (.c .A) (.L .O .B (.Q (.s (.s .A .B) .I) (.c .A)))) rf [_] [_,_] h3 v0))) ?_)
        refine iz hs (aM (.it rfl (by exact aH (.T (.a .A .B) (.s .C .D) (.L .O (.a .A .B) (.P .O (.s (.s .C .D) .I)))) rf [] [_,_,_,_] c2 h4) (jx (by exact aH (.T (.a .A .B) (.s .C .D) (.L .O (.a .A .B) (.P .O (.s (.s .C .D) .I)))) rf [] [_,_,_,_] c2 h4) (by exact aH (.L .A (.c .A) (.L .O .B (.Q (.s (.s .A .B) .I) (.c .A)))) rf [_] [_,_] h6 v0))) ?_)
        by_cases c3 : gI A (a1 - v - 1) = gI B (b1 - v - 1)
        · refine cy c3 (a6 rfl ?_)
          have := ih (v + 1) (by exact aH (.T (.s (.s (.s .A .B) .C) .D) (.c (.a .A .I)) (.Q (.s (.s (.s .A .B) .C) (.a .D .I)) (.c .A))) rf [_] [_,_,_,_] hm) (by exact aH (.L .O .A (.P .O (.a .A .I))) rf [] [_] v0) (by exact aH (.T (.a .A .B) (.s .C .D) (.P (.a .B (.a .D .I)) (.s .C .A))) rf [] [_,_,_,_] c1) (by exact aH (.T (.a .A .B) (.s .C .D) (.P (.a .B (.a .D .I)) (.s .C .A))) rf [] [_,_,_,_] c2) fun i h h' => if e : i < v then v3 i h e else by rw [show a1 - 1 - i = a1 - v - 1 by exact dX (aH (.L .A .B (.P (.s (.s .C .I) .B) (.s (.s .C .A) .I))) rf [] [_,_,_] (bh.mp e)) (aH (.T .A (.a .B .I) (.P (.s (.s .C .B) .I) (.s (.s .C .I) .A))) rf [] [_,_,_] h'), show b1 - 1 - i = b1 - v - 1 by exact dX (aH (.L .A .B (.P (.s (.s .C .I) .B) (.s (.s .C .A) .I))) rf [] [_,_,_] (bh.mp e)) (aH (.T .A (.a .B .I) (.P (.s (.s .C .B) .I) (.s (.s .C .I) .A))) rf [] [_,_,_] h')]; exact c3
          rw [← Int.sub_sub, ← Int.sub_sub] at this
          exact this
        · exact cn c3 (aN rfl (q v v0 v1 v2 v3 (.inr (.inr c3))))
      · exact cn c2 (aN rfl (q v v0 v1 v2 v3 (.inr (.inl (by exact dX (aH (.L (.a .A .B) (.s .C .D) (.P (.a .D .A) (.s .C .B))) rf [] [_,_,_,_] v2) (aH (.L (.s .A .B) (.a .C .D) (.P (.s .A .B) (.a .C .D))) rf [] [_,_,_,_] (bh.mp c2)))))))
    · exact cn c1 (aN rfl (q v v0 v1 v2 v3 (.inl (by exact dX (aH (.L (.a .A .B) (.s .C .D) (.P (.a .D .A) (.s .C .B))) rf [] [_,_,_,_] v1) (aH (.L (.s .A .B) (.a .C .D) (.P (.s .A .B) (.a .C .D))) rf [] [_,_,_,_] (bh.mp c1))))))
theorem xv (hW : Wk W) {k k1 k2 : Nat} {a0 a1 b0 b1 : Int} {Q : VQ} (S : ShAt σ k A B k1 k2 gone come) (h1 : 0 ≤ a0) (h2 : a0 ≤ a1) (h3 : a1 ≤ A.length) (h4 : 0 ≤ b0) (h5 : b0 ≤ b1) (h6 : b1 ≤ B.length)
    (q : ∀ u v, Trim A B a0 a1 b0 b1 u v → Q (.d (i0 (a0 + u) (a1 - v) (b0 + u) (b1 - v))) σ) : CallP W (n + 1) 215 [.hd k, .d (i0 a0 a1 b0 b1)] σ Q := by
  refine fnS S hW (ws := [.hd 0, .d (i0 a0 a1 b0 b1)]) rfl rfl rfl ?_
  refine iH ((a1 - a0).toNat + 1) ?_
  have L := trim1 (Q := gZ (an (tQ eQ eP) (an (bS (eB (ae (eV 2) (ae (eV 3) (ae (eV 4) (ae (eV 5) ak)))))) aq)) (gM [k, k1, k2] 0 σ Q)) (p := .d (i0 a0 a1 b0 b1)) (σ := [jT A B 1 2, eX gone, eX come]) rfl h1 h3 h4 h6 (fun u u0 u1 u2 u3 mx => ?_) ((a1 - a0).toNat + 1) 0 (by exact aH (.w (.s .A .B) (.c .A) (.Q (.s (.s .A .B) .O) (.c (.a .A .I)))) rf [_] [_,_] (aE (aH (.L .A .B (.P .O (.s .B .A))) rf [] [_,_] h2))) (cA _) (by exact aH (.L .A .B (.P .O (.s .B .A))) rf [] [_,_] h2) (by exact aH (.L .A .B (.P .O (.s .B .A))) rf [] [_,_] h5) (fun i h h' => absurd (Int.lt_of_le_of_lt h h') (dF _))
  · rw [ca, ca] at L; exact L
  · refine iH ((a1 - a0 - u).toNat + 1) ?_
    have L := trim2 (Q := gZ (an (bS (eB (ae (eV 2) (ae (eV 3) (ae (eV 4) (ae (eV 5) ak)))))) aq) (gM [k, k1, k2] 0 σ Q)) (p := .d (i0 a0 a1 b0 b1)) (σ := [jT A B 1 2, eX gone, eX come]) (a0 := a0) (b0 := b0) (u := u) rfl (by exact aH (.L .O .A (.L .O .B (.P .O (.a .A .B)))) rf [] [_,_] h1 u0) h3 (by exact aH (.L .O .A (.L .O .B (.P .O (.a .A .B)))) rf [] [_,_] h4 u0) h6 (fun v v0 v1 v2 v3 mx' => ?_) ((a1 - a0 - u).toNat + 1) 0 (by exact aH (.w (.s (.s .A .B) .C) (.c .A) (.Q (.s (.s (.s .A .B) .C) .O) (.c (.a .A .I)))) rf [_] [_,_,_] (aE (aH (.L .A (.s .B .C) (.P .O (.s (.s .B .C) .A))) rf [] [_,_,_] u1))) (cA _) (by exact aH (.L .A (.s .B .C) (.P (.a .A .O) (.s .B .C))) rf [] [_,_,_] u1) (by exact aH (.L .A (.s .B .C) (.P (.a .A .O) (.s .B .C))) rf [] [_,_,_] u2) (fun i h h' => absurd (Int.lt_of_le_of_lt h h') (dF _))
    · rw [rN, rN] at L; exact L
    · have := q u v ⟨u0, v0, v1, v2, u3, v3, mx, mx'⟩
      rw [← S.same] at this
      exact this
end
noncomputable def oM (k : Int) : Int → Nat → List D
  | _, 0 => []
  | a, m + 1 => .int a :: oM k (a + k) m
theorem yC {k : Int} : ∀ (m : Nat) (a : Int), (ij m).map (fun (i : Nat) => D.int (a + (i : Int) * k)) = oM k a m
  | 0, _ => rfl
  | m + 1, a => by
    rw [xo, cG, ji]
    refine congr (congrArg _ ?_) ((congrArg (zp · _) (funext fun i => ?_)).trans (yC m (a + k)))
    · show D.int (a + 0 * k) = _; rw [rK, ca]
    · show D.int (a + ((i + 1 : Nat) : Int) * k) = _
      rw [lA, Int.add_mul, Int.one_mul, Int.add_comm (_ * k), kI]
theorem A8 {a b k : Int} {m : Nat} (hs : Builtin.Range.small a b k = true) (hm : (Builtin.Range.rangeSize a b k).toNat = m) : jG (.rng a b k) = some (oM k a m) := by
  subst hm; exact (if_pos hs).trans (congrArg some (yC _ _))
theorem wf {a b c : Int} (h1 : -1000000 ≤ a) (h2 : a ≤ 1000000) (h3 : -1000000 ≤ b) (h4 : b ≤ 1000000) (h5 : 1 ≤ c) (h6 : c ≤ 1000) : Builtin.Range.small a b c = true := by
  have hz : 0 ≤ Builtin.Range.rangeSize a b c ∧ Builtin.Range.rangeSize a b c ≤ 2000001 := by
    unfold Builtin.Range.rangeSize
    rw [if_pos (by exact aH (.L .I .A (.Q .O .A)) rf [] [_] h5)]
    split
    · have e1 := uj (a := b - a - 1) (b := c) (by exact aH (.T .A .B (.P .O (.s (.s .B .A) .I))) rf [] [_,_] (by assumption)) (by exact aH (.L .I .A (.P .O .A)) rf [] [_] h5)
      have e2 := Int.ediv_le_self (a := b - a - 1) c (by exact aH (.T .A .B (.P .O (.s (.s .B .A) .I))) rf [] [_,_] (by assumption))
      exact ⟨aH (.L .O .A (.P .O (.a .A .I))) rf [] [_] e1, aH (.L .A (.s (.s .B .C) .I) (.L (.g (.n 1000000)) .C (.L .B (.n 1000000) (.P (.a .A .I) (.n 2000001))))) rf [] [_,_,_] e2 h1 h4⟩
    · exact ⟨aH (.P .O .O) rf [] [], aH (.P .O (.n 2000001)) rf [] []⟩
  unfold Builtin.Range.small
  have f : ∀ x : Int, -3000000 ≤ x → x ≤ 3000000 → Builtin.Range.rangeFitsLong x = true := fun x h h' => by
    unfold Builtin.Range.rangeFitsLong
    simp; exact ⟨aH (.L (.g (.n 3000000)) .A (.P (.g (.n 9223372036854775808)) .A)) rf [] [_] h, aH (.L .A (.n 3000000) (.Q .A (.n 9223372036854775808))) rf [] [_] h'⟩
  rw [f a (by exact aH (.L (.g (.n 1000000)) .A (.P (.g (.n 3000000)) .A)) rf [] [_] h1) (by exact aH (.L .A (.n 1000000) (.P .A (.n 3000000))) rf [] [_] h2), f b (by exact aH (.L (.g (.n 1000000)) .A (.P (.g (.n 3000000)) .A)) rf [] [_] h3) (by exact aH (.L .A (.n 1000000) (.P .A (.n 3000000))) rf [] [_] h4), f c (by exact aH (.L .I .A (.P (.g (.n 3000000)) .A)) rf [] [_] h5) (by exact aH (.L .A (.n 1000) (.P .A (.n 3000000))) rf [] [_] h6), f _ (by exact aH (.L .O .A (.P (.g (.n 3000000)) .A)) rf [] [_] hz.1) (by exact aH (.L .A (.n 2000001) (.P .A (.n 3000000))) rf [] [_] hz.2), f (b + (c - 1)) (by exact aH (.L (.g (.n 1000000)) .A (.L .I .B (.P (.g (.n 3000000)) (.a .A (.s .B .I))))) rf [] [_,_] h3 h5) (by exact aH (.L .A (.n 1000000) (.L .B (.n 1000) (.P (.a .A (.s .B .I)) (.n 3000000)))) rf [] [_,_] h4 h6)]
  simp; exact .inr (by exact .inl (aH (.L .I .A (.Q .O .A)) rf [] [_] h5))
theorem it_1 {a b : Int} (h1 : -1000000 ≤ a) (h2 : a ≤ 1000000) (h3 : -1000000 ≤ b) (h4 : b ≤ 1000000) : jG (.rng a b 1) = some (oM 1 a (b - a).toNat) := by
  refine A8 (wf h1 h2 h3 h4 (by decide) (by decide)) ?_
  unfold Builtin.Range.rangeSize
  rw [if_pos (by decide), Int.ediv_one]
  split
  · rw [Int.sub_add_cancel]
  · exact (Int.toNat_of_nonpos (by exact aH (.L .A .B (.P (.s .A .B) .O)) rf [] [_,_] (bh.mp (by assumption)))).symm
noncomputable def eJ (l : List Bool) (x y : Int) : List Bool := l.mapIdx fun i b => b || (decide (x ≤ (i : Int)) && decide ((i : Int) < y))
theorem markL_len {l : List Bool} {x y : Int} : (eJ l x y).length = l.length := List.length_mapIdx
theorem sR {l : List Bool} {x y : Int} {i : Nat} (h : i < (eJ l x y).length) : (eJ l x y)[i] = (l[i]'(markL_len ▸ h) || (decide (x ≤ (i : Int)) && decide ((i : Int) < y))) := List.getElem_mapIdx
theorem sQ {l : List Bool} {x y : Int} (h : y ≤ x) : eJ l x y = l := by
  refine sf markL_len fun i h1 h2 => ?_
  rw [sR]
  by_cases q : x ≤ (i : Int)
  · rw [decide_eq_false (show ¬ (i : Int) < y by exact bh.mpr (aH (.L .A .B (.L .B (.c .A) (.P .A (.c .A)))) rf [_] [_,_] h q)), uU, wb]
  · rw [decide_eq_false q, uT, wb]
theorem uv {l : List Bool} {x y : Int} (h0 : 0 ≤ x) (h : x < y) : eJ (l.set x.toNat true) (x + 1) y = eJ l x y := by
  refine sf (by rw [markL_len, markL_len, c8]) fun i h1 h2 => ?_
  rw [sR, sR, List.getElem_set]
  by_cases e : x.toNat = i
  · rw [if_pos e, decide_eq_true (show x ≤ (i : Int) by exact aH (.w .A (.c .A) (.e .A .B (.P .A (.c .B)))) rf [_,_] [_] (aE h0) e), decide_eq_true (show (i : Int) < y by exact aH (.T .A .B (.u (.c .A) .A (.i .B .A (.Q (.c .B) .B)))) rf [_,_] [_,_] h (aE h0) e), Bool.true_or, Bool.and_self, Bool.or_true]
  · rw [if_neg e, decide_eq_decide.mpr (show x + 1 ≤ (i : Int) ↔ x ≤ (i : Int) by exact ⟨fun h3' => aH (.L (.a .A .I) (.c .A) (.P .A (.c .A))) rf [_] [_] h3', fun h3' => (Nat.lt_or_gt_of_ne e).elim (fun h3 => aH (.w .A (.c .A) (.t .A .B (.P (.a .A .I) (.c .B)))) rf [_,_] [_] (aE h0) h3) fun h3 => aH (.L .A (.c .A) (.t .A .B (.u (.c .B) .A (.L .A (.c .A) (.P (.a .A .I) (.c .A)))))) rf [_,_] [_] h3' h3 (aE h0) h3'⟩)]
section
variable {W : Wd} {n : Nat} {σ : List MO} {A B : List Int} {gone come : List Bool}
theorem mark1 {p x2 x3 x4 x5 : V} {s : MO} {Q : FX} : ∀ (m : Nat) {y : Int} {g : List Bool} {e : V}, 0 ≤ y → y + m ≤ g.length → (∀ e, Q .next [.hd 0, p, x2, x3, x4, x5, e] [jT A B 1 2, eX (eJ g y (y + m)), s]) → gl jd 6 (oM 1 y m) [.hd 0, p, x2, x3, x4, x5, e] [jT A B 1 2, eX g, s] Q
  | 0, y, g, e, _, _, q => by
    have := q e
    rw [sQ (show y + ((0 : Nat) : Int) ≤ y by exact aH (.P (.a .A (.c .O)) .A) rf [] [_])] at this
    exact this
  | m + 1, y, g, e, h0, h1, q => by
    refine pX (.list rfl h0 (by rw [ah]; exact aH (.u (.c .A) .A (.L (.a .A (.c (.a .B .I))) (.c .C) (.q .A .C))) rf [_,_,_] [_] (aE h0) h1)) ?_
    have := mark1 (p := p) (x2 := x2) (x3 := x3) (x4 := x4) (x5 := x5) (s := s) (Q := Q) m (y := y + 1) (g := g.set y.toNat true) (e := .d (.int y)) (by exact aH (.L .O .A (.P .O (.a .A .I))) rf [] [_] h0) (by rw [c8]; exact aH (.L (.a .A (.c (.a .A .I))) (.c .B) (.P (.a (.a .A .I) (.c .A)) (.c .B))) rf [_,_] [_] h1) fun e => by
      rw [uv h0 (by exact aH (.Q .A (.a (.a .A .I) (.c .A))) rf [_] [_]), show y + 1 + (m : Int) = y + ((m + 1 : Nat) : Int) by exact aH (.O (.a (.a .A .I) (.c .A)) (.a .A (.c (.a .A .I)))) rf [_] [_]]; exact q e
    unfold eX at this
    rw [List.map_set] at this
    exact this
theorem mark2 {p x2 x3 x4 x5 : V} {s : MO} {Q : FX} : ∀ (m : Nat) {y : Int} {g : List Bool} {e : V}, 0 ≤ y → y + m ≤ g.length → (∀ e, Q .next [.hd 0, p, x2, x3, x4, x5, e] [jT A B 1 2, s, eX (eJ g y (y + m))]) → gl jb 6 (oM 1 y m) [.hd 0, p, x2, x3, x4, x5, e] [jT A B 1 2, s, eX g] Q
  | 0, y, g, e, _, _, q => by
    have := q e
    rw [sQ (show y + ((0 : Nat) : Int) ≤ y by exact aH (.P (.a .A (.c .O)) .A) rf [] [_])] at this
    exact this
  | m + 1, y, g, e, h0, h1, q => by
    refine pX (.list rfl h0 (by rw [ah]; exact aH (.u (.c .A) .A (.L (.a .A (.c (.a .B .I))) (.c .C) (.q .A .C))) rf [_,_,_] [_] (aE h0) h1)) ?_
    have := mark2 (p := p) (x2 := x2) (x3 := x3) (x4 := x4) (x5 := x5) (s := s) (Q := Q) m (y := y + 1) (g := g.set y.toNat true) (e := .d (.int y)) (by exact aH (.L .O .A (.P .O (.a .A .I))) rf [] [_] h0) (by rw [c8]; exact aH (.L (.a .A (.c (.a .A .I))) (.c .B) (.P (.a (.a .A .I) (.c .A)) (.c .B))) rf [_,_] [_] h1) fun e => by
      rw [uv h0 (by exact aH (.Q .A (.a (.a .A .I) (.c .A))) rf [_] [_]), show y + 1 + (m : Int) = y + ((m + 1 : Nat) : Int) by exact aH (.O (.a (.a .A .I) (.c .A)) (.a .A (.c (.a .A .I)))) rf [_] [_]]; exact q e
    unfold eX at this
    rw [List.map_set] at this
    exact this
theorem mark_ok (hW : Wk W) {k k1 k2 : Nat} {a0 a1 b0 b1 : Int} {Q : VQ} (S : ShAt σ k A B k1 k2 gone come) (ha : gone.length ≤ 1000000) (hb : come.length ≤ 1000000) (h1 : 0 ≤ a0) (h2 : a0 ≤ a1) (h3 : a1 ≤ gone.length) (h4 : 0 ≤ b0) (h5 : b0 ≤ b1) (h6 : b1 ≤ come.length)
    (q : Q (.d .none) ((σ.set k1 (eX (eJ gone a0 a1))).set k2 (eX (eJ come b0 b1)))) : CallP W (n + 1) 222 [.hd k, .d (i0 a0 a1 b0 b1)] σ Q := by
  refine fnS S hW (ws := [.hd 0, .d (i0 a0 a1 b0 b1)]) rfl rfl rfl ?_
  refine af (.range2 _ _) (ef (d := .rng a0 a1 1) (it_1 (by exact aH (.L .O .A (.P (.g (.n 1000000)) .A)) rf [] [_] h1) (by exact aH (.L .A .B (.L .B (.c .A) (.l .A (.n 1000000) (.P .A (.n 1000000))))) rf [_] [_,_] h2 h3 ha) (by exact aH (.L .A .B (.L .O .A (.P (.g (.n 1000000)) .B))) rf [] [_,_] h2 h1) (by exact aH (.L .A (.c .A) (.l .A (.n 1000000) (.P .A (.n 1000000)))) rf [_] [_] h3 ha)) ?_)
  refine mark1 _ h1 (by exact aH (.u (.c .A) (.s .A .B) (.L .A (.c .B) (.P (.a .B (.c .A)) (.c .B)))) rf [_,_] [_,_] (aE (aH (.L .A .B (.P .O (.s .B .A))) rf [] [_,_] h2)) h3) fun e => ?_
  refine af (.range2 _ _) (ef (d := .rng b0 b1 1) (it_1 (by exact aH (.L .O .A (.P (.g (.n 1000000)) .A)) rf [] [_] h4) (by exact aH (.L .A .B (.L .B (.c .A) (.l .A (.n 1000000) (.P .A (.n 1000000))))) rf [_] [_,_] h5 h6 hb) (by exact aH (.L .A .B (.L .O .A (.P (.g (.n 1000000)) .B))) rf [] [_,_] h5 h4) (by exact aH (.L .A (.c .A) (.l .A (.n 1000000) (.P .A (.n 1000000)))) rf [_] [_] h6 hb)) ?_)
  refine mark2 _ h4 (by exact aH (.u (.c .A) (.s .A .B) (.L .A (.c .B) (.P (.a .B (.c .A)) (.c .B)))) rf [_,_] [_,_] (aE (aH (.L .A .B (.P .O (.s .B .A))) rf [] [_,_] h5)) h6) fun e' => ?_
  show Q _ (((σ.set k (jT A B k1 k2)).set k1 _).set k2 _)
  rw [dL S.i, show a0 + ((a1 - a0).toNat : Int) = a1 by exact aH (.u (.c .A) (.s .A .B) (.O (.a .B (.c .A)) .A)) rf [_] [_,_] (aE (aH (.L .A .B (.P .O (.s .B .A))) rf [] [_,_] h2)), show b0 + ((b1 - b0).toNat : Int) = b1 by exact aH (.u (.c .A) (.s .A .B) (.O (.a .B (.c .A)) .A)) rf [_] [_,_] (aE (aH (.L .A .B (.P .O (.s .B .A))) rf [] [_,_] h5))]
  exact q
end
noncomputable def furth (m : Int → Option Int) (l : Int) : Option Int :=
  match m (l - 1), m (l + 1) with
  | none, y => y
  | some x, none => some (x + 1)
  | some x, some y => some (max (x + 1) y)
section
variable {W : Wd} {n : Nat} {σ : List MO} {Q : VQ}
theorem s5 (hW : Wk W) {k z : Nat} {m : Int → Option Int} {l y : Int} (h : σ[k]? = some (.imap m z)) (hy : furth m l = some y) (q : Q (.d (.int y)) σ) : CallP W (n + 1) 292 [.hd k, .d (.int l)] σ Q := by
  rw [← dL h] at q
  refine Bm (ws := [.hd 0, .d (.int l)]) (σL := [.imap m z]) [k] 0 hW rfl rfl rfl (bQ _ _) ⟨h, trivial⟩ rfl ?_
  unfold furth at hy
  refine aw (.nmem (.imap rfl)) ?_
  cases c1 : m (l - 1) with
  | none =>
    rw [c1] at hy
    exact a6 rfl (aM (.imap rfl hy) q)
  | some x =>
    refine aN rfl ?_
    refine aw (.nmem (.imap rfl)) ?_
    rw [c1] at hy
    cases c2 : m (l + 1) with
    | none =>
      rw [c2] at hy; cases hy
      exact a6 rfl (aM (.imap rfl c1) q)
    | some x' =>
      rw [c2] at hy; cases hy
      exact aN rfl (aM (.imap rfl c1) (aM (.imap rfl c2) (af (.max _ _) q)))
end
noncomputable def xj (eq : Int → Int → Bool) (W T l : Int) : Nat → Int → Int
  | 0, x => x
  | n + 1, x => if x < W ∧ x - l < T ∧ eq x (x - l) = true then xj eq W T l n (x + 1) else x
noncomputable def vY (F : Nat → Int) (r i : Nat) : Int := if i = 0 then F 0 else if i = r + 1 then F r + 1 else max (F (i - 1) + 1) (F i)
noncomputable def FF (eq : Int → Int → Bool) (W T : Int) : Nat → Nat → Int
  | 0, _ => 0
  | r + 1, i => xj eq W T (2 * i - (r + 1 : Nat)) (W - vY (FF eq W T r) r i).toNat (vY (FF eq W T r) r i)
section
variable {eq : Int → Int → Bool} {W T : Int}
theorem xC : ∀ n l x, x ≤ xj eq W T l n x
  | 0, l, x => cA _
  | n + 1, l, x => by
    unfold xj
    by_cases c : x < W ∧ x - l < T ∧ eq x (x - l) = true
    · rw [if_pos c]; exact b9 (Int.le_add_of_nonneg_right (by decide)) (xC n l (x + 1))
    · rw [if_neg c]; exact cA _
theorem yG : ∀ n l x, xj eq W T l n x = x ∨ (xj eq W T l n x ≤ W ∧ xj eq W T l n x - l ≤ T ∧ eq (xj eq W T l n x - 1) (xj eq W T l n x - 1 - l) = true)
  | 0, l, x => .inl rfl
  | n + 1, l, x => by
    unfold xj
    by_cases c : x < W ∧ x - l < T ∧ eq x (x - l) = true
    · rw [if_pos c]
      rcases yG n l (x + 1) with e | e
      · rw [e, cP]; exact .inr ⟨c.1, by have := c.2.1; exact aH (.T (.s .A .B) .C (.P (.s (.a .A .I) .B) .C)) rf [] [_,_,_] c.2.1, c.2.2⟩
      · exact .inr e
    · rw [if_neg c]; exact .inl rfl
inductive Src (F : Nat → Int) (r : Nat) : Nat → Int → Prop
  | right {k} (h : k ≤ r) : Src F r (k + 1) (F k + 1)
  | down {i} (h : i ≤ r) : Src F r i (F i)
theorem yF {F : Nat → Int} {r i : Nat} (h : i ≤ r + 1) : Src F r i (vY F r i) := by
  unfold vY
  cases i with
  | zero => rw [if_pos rfl]; exact .down (aY _)
  | succ i =>
    rw [if_neg (iG i)]
    by_cases c : i + 1 = r + 1
    · rw [if_pos c, ← fI.inj c]; exact .right (au _)
    · rw [if_neg c, dJ, Int.max_def]
      by_cases c' : F i + 1 ≤ F (i + 1)
      · rw [if_pos c']; exact .down (dY (gr h c))
      · rw [if_neg c']; exact .right (cZ h)
theorem yy {r i : Nat} (h : i ≤ r) : FF eq W T r i + 1 ≤ FF eq W T (r + 1) (i + 1) := by
  refine b9 ?_ (xC _ _ _)
  unfold vY
  rw [if_neg (iG i), dJ]
  by_cases c : i + 1 = r + 1
  · rw [if_pos c, fI.inj c]; exact cA _
  · rw [if_neg c]; exact Int.le_max_left _ _
theorem yx {r i : Nat} (h : i ≤ r) : FF eq W T r i ≤ FF eq W T (r + 1) i := by
  refine b9 ?_ (xC _ _ _)
  unfold vY
  induction i using Nat.casesOn with
  | zero => rw [if_pos rfl]; exact cA _
  | succ i =>
    rw [if_neg (iG i), if_neg (cY (cz h))]; exact Int.le_max_right _ _
theorem nU : ∀ {r i : Nat}, i ≤ r → (i : Int) ≤ FF eq W T r i
  | 0, 0, _ => cA _
  | r + 1, 0, _ => b9 (nU (r := r) (aY r)) (yx (aY r))
  | r + 1, i + 1, h => b9 (fK (nU (cZ h)) 1) (yy (cZ h))
theorem BY {r i : Nat} (h : i ≤ r) : 0 ≤ FF eq W T r i ∧ 0 ≤ FF eq W T r i - (2 * i - (r : Int)) := by
  have := nU (eq := eq) (W := W) (T := T) h; exact ⟨aH (.L (.c .A) .A (.P .O .A)) rf [_] [_] this, aH (.l .A .B (.L (.c .A) .A (.P .O (.s .A (.s (.m 2 (.c .A)) (.c .B)))))) rf [_,_] [_] h this⟩
theorem yw {r i : Nat} (h : i ≤ r + 1) : Src (FF eq W T r) r i (FF eq W T (r + 1) i) ∨ (FF eq W T (r + 1) i ≤ W ∧ FF eq W T (r + 1) i - (2 * i - (r + 1 : Nat)) ≤ T ∧ eq (FF eq W T (r + 1) i - 1) (FF eq W T (r + 1) i - 1 - (2 * i - (r + 1 : Nat))) = true) :=
  (yG _ _ _).imp (fun e => by rw [show FF eq W T (r + 1) i = _ from e]; exact yF h) id
theorem FF_x (hW : 0 < W) : ∀ {r i : Nat}, i ≤ r → W < FF eq W T r i → ∃ k, k + 1 = i ∧ FF eq W T r i ≤ FF eq W T r k + 1
  | 0, i, _, h => absurd (yv hW h) (dF 0)
  | r + 1, i, hi, h => by
    rcases yw (eq := eq) (W := W) (T := T) hi with s | s
    · generalize FF eq W T (r + 1) i = x at h s
      induction s using Src.casesOn with
      | right hk => exact ⟨_, rfl, fK (yx hk) 1⟩
      | down hk =>
        obtain ⟨k, rfl, e⟩ := FF_x hW hk h
        exact ⟨k, rfl, b9 e (fK (yx (bf hk)) 1)⟩
    · exact absurd h (bh.mpr s.1)
theorem FF_y (hT : 0 < T) : ∀ {r i : Nat}, i ≤ r → T < FF eq W T r i - (2 * i - (r : Int)) → i + 1 ≤ r ∧ FF eq W T r i + 1 ≤ FF eq W T r (i + 1)
  | 0, 0, _, h => absurd (yv hT h) (dF 0)
  | r + 1, i, hi, h => by
    rcases yw (eq := eq) (W := W) (T := T) hi with s | s
    · generalize FF eq W T (r + 1) i = x at h s
      induction s using Src.casesOn with
      | right hk =>
        obtain ⟨a, e⟩ := FF_y hT hk (by exact aH (.T .A (.s (.a .B .I) (.s (.m 2 (.c (.a .A .I))) (.c (.a .B .I)))) (.Q .A (.s .B (.s (.m 2 (.c .A)) (.c .B))))) rf [_,_] [_,_] h)
        exact ⟨aj a, b9 (fK e 1) (yy a)⟩
      | down hk => exact ⟨aj hk, yy hk⟩
    · exact absurd h (bh.mpr s.2.1)
end
noncomputable def Mt (F G : Nat → Nat → Int) (W T : Int) (r p i : Nat) : Prop := ∃ j : Nat, j ≤ p ∧ 2 * ((i : Int) + j) = W - T + p + r ∧ W ≤ F r i + G p j
section
variable {eq eq' : Int → Int → Bool} {W T : Int}
theorem mt_in (hW : 0 < W) (hT : 0 < T) {r p i : Nat} (hp : p = r ∨ p = r + 1) (h : i ≤ r + 1) (hl : eq (W - 1) (T - 1) = false) (no : ∀ q k, p = q + 1 → k ≤ r → ¬ Mt (FF eq W T) (FF eq' W T) W T r q k) (m : Mt (FF eq W T) (FF eq' W T) W T (r + 1) p i) :
    FF eq W T (r + 1) i ≤ W ∧ FF eq W T (r + 1) i - (2 * i - (r + 1 : Nat)) ≤ T ∧ ¬ (FF eq W T (r + 1) i = W ∧ FF eq W T (r + 1) i - (2 * i - (r + 1 : Nat)) = T) := by
  obtain ⟨j, m1, m2, _⟩ := m
  rcases yw (eq := eq) (W := W) (T := T) h with s | s
  · generalize FF eq W T (r + 1) i = x at s
    induction p using Nat.casesOn with
    | zero =>
      cases hp.resolve_right nofun
      induction s using Src.casesOn with
      | right hk => cases oK.mp hk; rw [show FF eq W T 0 0 = 0 from rfl]; exact ⟨aH (.T .O .A (.P (.a .O .I) .A)) rf [] [_] hW, ⟨aH (.T .O .A (.P (.s (.a .O .I) (.s (.m 2 (.c (.a .O .I))) (.c (.a .O .I)))) .A)) rf [] [_] hT, fun h3' => aH (.T .O .A (.w .A (.s (.a .O .I) (.s (.m 2 (.c (.a .O .I))) (.c (.a .O .I)))) .f)) rf [] [_] hT h3'.2⟩⟩
      | down hk => cases oK.mp hk; rw [show FF eq W T 0 0 = 0 from rfl]; exact ⟨aH (.T .O .A (.P .O .A)) rf [] [_] hW, ⟨aH (.T .O .A (.P (.s .O (.s (.m 2 (.c .O)) (.c (.a .O .I)))) .A)) rf [] [_] hT, fun h3' => aH (.T .O .A (.w .A .O .f)) rf [] [_] hW h3'.1⟩⟩
    | succ q =>
      have n1 : ∀ {k}, k + 1 = i → j ≤ q → FF eq W T r k + FF eq' W T q j < W := fun {k} e l => eW.mp fun c => no q k rfl (by exact aH (.e (.a .A .I) .B (.l .B (.a .C .I) (.p .A .C))) rf [_,_,_] [] e h) ⟨j, l, by exact aH (.u (.m 2 (.a (.c .A) (.c .B))) (.a (.a (.s .A .B) (.c (.a .C .I))) (.c (.a .D .I))) (.e (.a .F .I) .A (.e (.a .F .I) .A (.O (.m 2 (.a (.c .F) (.c .B))) (.a (.a (.s .A .B) (.c .C)) (.c .D)))))) rf [_,_,_,_,_] [_,_] m2 e e, c⟩
      have n2 : ∀ {g}, g + 1 = j → i ≤ r → FF eq W T r i + FF eq' W T q g < W := fun {g} e l => eW.mp fun c => no q i rfl l ⟨g, by exact aH (.e (.a .A .I) .B (.l .B (.a .C .I) (.p .A .C))) rf [_,_,_] [] e m1, by exact aH (.u (.m 2 (.a (.c .A) (.c .B))) (.a (.a (.s .A .B) (.c (.a .C .I))) (.c (.a .D .I))) (.e (.a .F .I) .B (.e (.a .F .I) .B (.O (.m 2 (.a (.c .A) (.c .F))) (.a (.a (.s .A .B) (.c .C)) (.c .D)))))) rf [_,_,_,_,_] [_,_] m2 e e, c⟩
      have x1 : W < x → j = q + 1 := fun c => by
        refine bE m1 (gn.mp fun l => ?_)
        obtain ⟨k, e, hk, a⟩ : ∃ k, k + 1 = i ∧ k ≤ r ∧ W ≤ FF eq W T r k := by
          induction s using Src.casesOn with
          | right hk => exact ⟨_, rfl, hk, Ah c⟩
          | down hk =>
            obtain ⟨k, rfl, e⟩ := FF_x hW hk c
            exact ⟨k, rfl, bf hk, Ah (qD c e)⟩
        have := n1 e l; have := (BY (eq := eq') (W := W) (T := T) l).1; exact aH (.T (.a .A .B) .C (.L .C .A (.L .O .B .f))) rf [] [_,_,_] (by assumption) a this
      have y1 : T < x - (2 * i - (r + 1 : Nat)) → j = 0 := fun c => by
        refine Nat.eq_zero_of_not_pos fun l => ?_
        obtain ⟨g, e⟩ := xf l
        obtain ⟨hk, a⟩ : i ≤ r ∧ T ≤ FF eq W T r i - (2 * i - (r : Int)) := by
          induction s using Src.casesOn with
          | right hk => obtain ⟨a, b⟩ := FF_y (eq := eq) (W := W) hT hk (by exact aH (.T .A (.s (.a .B .I) (.s (.m 2 (.c (.a .A .I))) (.c (.a .B .I)))) (.Q .A (.s .B (.s (.m 2 (.c .A)) (.c .B))))) rf [_,_] [_,_] c); exact ⟨a, by exact aH (.T .A (.s (.a .B .I) (.s (.m 2 (.c (.a .A .I))) (.c (.a .B .I)))) (.L (.a .B .I) .C (.P .A (.s .C (.s (.m 2 (.c (.a .A .I))) (.c .B)))))) rf [_,_] [_,_,_] c b⟩
          | down hk => exact ⟨hk, by exact aH (.T .A (.s .B (.s (.m 2 (.c .A)) (.c (.a .B .I)))) (.P .A (.s .B (.s (.m 2 (.c .A)) (.c .B))))) rf [_,_] [_,_] c⟩
        have := n2 e.symm hk; have := (BY (eq := eq') (W := W) (T := T) (r := q) (i := g) (by exact aH (.i (.a .A .I) .B (.l .B (.a .C .I) (.p .A .C))) rf [_,_,_] [] e m1)).2; exact aH (.w (.a (.a (.s .A .B) (.c (.a .A .I))) (.c (.a .B .I))) (.m 2 (.a (.c .C) (.c .D))) (.T (.a .C .D) .A (.L .B (.s .C (.s (.m 2 (.c .C)) (.c .B))) (.e .D (.a .F .I) (.e .D (.a .F .I) (.L .O (.s .D (.s (.m 2 (.c .F)) (.c .A))) .f)))))) rf [_,_,_,_,_] [_,_,_,_] m2 (by assumption) a e e this
      refine ⟨bh.mp fun c => ?_, bh.mp fun c => ?_, fun c => ?_⟩
      · have := x1 c; have := y1 (by exact aH (.u (.m 2 (.a (.c .A) (.c .B))) (.a (.a (.s .A .B) (.c (.a .C .I))) (.c (.a .D .I))) (.T .A .C (.i (.a .C .I) .B (.Q .B (.s .C (.s (.m 2 (.c .A)) (.c (.a .D .I)))))))) rf [_,_,_,_] [_,_,_] m2 c this); exact aH (.i (.a .A .I) .B (.e .B .O .f)) rf [_,_] [] (by assumption) this
      · have := y1 c; have := x1 (by exact aH (.w (.a (.a (.s .A .B) (.c (.a .A .I))) (.c (.a .B .I))) (.m 2 (.a (.c .C) (.c .D))) (.T .B (.s .C (.s (.m 2 (.c .C)) (.c (.a .B .I)))) (.l .D (.a .A .I) (.e .D .O (.Q .A .C))))) rf [_,_,_,_] [_,_,_] m2 c m1 this); exact aH (.i (.a .A .I) .B (.e .B .O .f)) rf [_,_] [] this (by assumption)
      · induction s using Src.casesOn with
        | @right k hk =>
          have := n1 rfl (by exact bz fun h3' => aH (.t .A .B (.u (.m 2 (.a (.c (.a .C .I)) (.c .B))) (.a (.a (.s .A .B) (.c (.a .A .I))) (.c (.a .D .I))) (.w .A (.a .C .I) (.u (.s (.a .C .I) (.s (.m 2 (.c (.a .C .I))) (.c (.a .D .I)))) .B (.t .A .B .f))))) rf [_,_,_,_] [_,_,_] h3' m2 c.1 c.2 h3'); have := nU (eq := eq') (W := W) (T := T) (r := q) (i := j) (by exact bz fun h3' => aH (.t .A .B (.u (.m 2 (.a (.c (.a .C .I)) (.c .B))) (.a (.a (.s .A .B) (.c (.a .A .I))) (.c (.a .D .I))) (.w .A (.a .C .I) (.u (.s (.a .C .I) (.s (.m 2 (.c (.a .C .I))) (.c (.a .D .I)))) .B (.t .A .B .f))))) rf [_,_,_,_] [_,_,_] h3' m2 c.1 c.2 h3'); exact aH (.T (.a .A .B) .C (.w (.a (.a (.s .C .D) (.c (.a .A .I))) (.c (.a .B .I))) (.m 2 (.a (.c (.a .C .I)) (.c .D))) (.w .D (.s (.a .A .I) (.s (.m 2 (.c (.a .C .I))) (.c (.a .B .I)))) (.L (.c .D) .B (.L (.c .D) .B (.T (.a .A .B) .C (.w .C (.a .A .I) .f))))))) rf [_,_,_,_] [_,_,_,_] (by assumption) m2 c.2 this this (by assumption) c.1
        | down hk =>
          have := n2 (g := j - 1) (aJ (by exact bz fun h3' => aH (.w (.a (.a (.s .A .B) (.c (.a .A .I))) (.c (.a .B .I))) (.m 2 (.a (.c .C) (.c .D))) (.u .C .A (.w .B (.s .C (.s (.m 2 (.c .C)) (.c (.a .B .I)))) (.t .D .I (.t .D .I .f))))) rf [_,_,_,_] [_,_,_] m2 c.1 c.2 h3' h3')) hk; have := (BY (eq := eq') (W := W) (T := T) (r := q) (i := j - 1) (by exact bz fun h3' => aH (.u (.s .A (.s (.m 2 (.c .A)) (.c (.a .B .I)))) .B (.u (.m 2 (.a (.c .A) (.c .C))) (.a (.a (.s .C .B) (.c (.a .D .I))) (.c (.a .B .I))) (.w .C .A (.t .D .F (.l .F .C (.t .D .F (.l .F .C .f))))))) rf [_,_,_,_,_] [_,_,_] c.2 m2 c.1 h3' (Nat.sub_le ..) h3' (Nat.sub_le ..))).1; exact aH (.T (.a .A .B) .C (.w .C .A (.L .O .B .f))) rf [] [_,_,_] (by assumption) c.1 this
  · refine ⟨s.1, s.2.1, fun e => ?_⟩
    have e3 := s.2.2
    rw [show FF eq W T (r + 1) i - 1 - (2 * i - (r + 1 : Nat)) = T - 1 by rw [show FF eq W T (r + 1) i - 1 - (2 * i - (r + 1 : Nat)) = FF eq W T (r + 1) i - (2 * i - (r + 1 : Nat)) - 1 by exact aH (.O (.s (.s .A .I) (.s (.m 2 (.c .A)) (.c (.a .B .I)))) (.s (.s .A (.s (.m 2 (.c .A)) (.c (.a .B .I)))) .I)) rf [_,_] [_], e.2], e.1, hl] at e3
    cases e3
theorem ww {r p : Nat} (hW : 0 < W) (hT : 0 < T) (h : (r : Int) + p = W + T) (hr : r ≤ p + 1) (hp : p ≤ r) : ∃ i, i ≤ r ∧ Mt (FF eq W T) (FF eq' W T) W T r p i := by
  obtain ⟨i, j, a, b, c⟩ : ∃ i j : Nat, (i : Int) + j = W ∧ j ≤ p ∧ i ≤ r := if q : W ≤ p then ⟨0, W.toNat, by exact aH (.u (.c .A) .A (.O (.a (.c .O) (.c .A)) .A)) rf [_] [_] (aE (aH (.T .O .A (.P .O .A)) rf [] [_] hW)), by exact aH (.u (.c .A) .A (.L .A (.c .B) (.p .A .B))) rf [_,_] [_] (aE (aH (.T .O .A (.P .O .A)) rf [] [_] hW)) q, aY _⟩ else ⟨(W - p).toNat, p, by exact aH (.u (.c .A) (.s .A (.c .B)) (.O (.a (.c .A) (.c .B)) .A)) rf [_,_] [_] (aE (aH (.T (.c .A) .A (.P .O (.s .A (.c .A)))) rf [_] [_] (eW.mp q))), au _, by exact aH (.u (.c .A) (.s .A (.c .B)) (.w (.a .A .B) (.a (.c .C) (.c .B)) (.T .O .B (.p .A .C)))) rf [_,_,_] [_,_] (aE (aH (.T (.c .A) .A (.P .O (.s .A (.c .A)))) rf [_] [_] (eW.mp q))) h hT⟩
  exact ⟨i, c, j, b, by exact aH (.u (.a (.c .A) (.c .B)) .A (.w (.a .A .B) (.a (.c .C) (.c .D)) (.u (.a (.c .A) (.c .B)) .A (.O (.m 2 (.a (.c .A) (.c .B))) (.a (.a (.s .A .B) (.c .D)) (.c .C)))))) rf [_,_,_,_] [_,_] a h a, by have := nU (eq := eq) (W := W) (T := T) c; have := nU (eq := eq') (W := W) (T := T) b; exact aH (.w .A (.a (.c .A) (.c .B)) (.L (.c .A) .B (.L (.c .B) .C (.P .A (.a .B .C))))) rf [_,_] [_,_,_] a (by assumption) this⟩
end
noncomputable def CM (F : Nat → Nat → Int) (r : Nat) (f : Int → Option Int) : Prop := (∀ j : Nat, j ≤ r → f (2 * j - (r : Int)) = some (F r j)) ∧ ∀ k, (k < -(r : Int) ∨ (r : Int) < k) → f k = none
structure PM (F : Nat → Nat → Int) (r i : Nat) (f : Int → Option Int) : Prop where
  old : ∀ j : Nat, j ≤ r → f (2 * j - (r : Int)) = some (F r j)
  new : ∀ j : Nat, j < i → f (2 * j - (r + 1 : Nat)) = some (F (r + 1) j)
  out : ∀ k : Int, (k < -((r + 1 : Nat) : Int) ∨ ((r + 1 : Nat) : Int) < k) → f k = none
section
variable {F G : Nat → Nat → Int} {r i : Nat} {f : Int → Option Int}
theorem PM.start (h : CM F r f) : PM F r 0 f := ⟨h.1, nofun, fun k hk => h.2 k (by exact hk.elim (fun h3 => .inl (aH (.T .A (.g (.c (.a .A .I))) (.Q .A (.g (.c .A)))) rf [_] [_] h3)) fun h3 => .inr (aH (.T (.c (.a .A .I)) .A (.Q (.c .A) .A)) rf [_] [_] h3))⟩
theorem PM.done (h : PM F r (r + 2) f) : CM F (r + 1) f := ⟨fun j hj => h.new j (cz hj), h.out⟩
theorem PM.step {l : Int} (h : PM F r i f) (hi : i ≤ r + 1) (hl : l = 2 * i - (r + 1 : Nat)) : PM F r (i + 1) (yD f l (F (r + 1) i)) where
  old j hj := (if_neg fun e => (Nat.lt_or_ge j i).elim (fun c => by exact aH (.t .A .B (.w (.s (.m 2 (.c .B)) (.c (.a .C .I))) .A (.w .A (.s (.m 2 (.c .A)) (.c .C)) (.t .A .B .f)))) rf [_,_,_] [_] c hl e c) fun c => by exact aH (.u .A (.s (.m 2 (.c .A)) (.c (.a .B .I))) (.l .A .C (.l .A .C (.u (.s (.m 2 (.c .C)) (.c .B)) .A .f)))) rf [_,_,_] [_] hl c c e).trans (h.old j hj)
  new j hj := by
    by_cases e : j = i
    · subst e; exact if_pos hl.symm
    · exact (if_neg (by exact yu ((Nat.lt_or_gt_of_ne e).elim (fun h3 => aH (.w (.s (.m 2 (.c .A)) (.c (.a .B .I))) .A (.t .C (.a .A .I) (.t .C .A (.Q (.s (.m 2 (.c .C)) (.c (.a .B .I))) .A)))) rf [_,_,_] [_] hl hj h3) fun h3 => aH (.w (.s (.m 2 (.c .A)) (.c (.a .B .I))) .A (.t .C (.a .A .I) (.t .C (.a .A .I) (.t .A .C (.t .C (.a .A .I) (.Q (.s (.m 2 (.c .C)) (.c (.a .B .I))) .A)))))) rf [_,_,_] [_] hl hj hj h3 hj))).trans (h.new j (gr (dY hj) e))
  out k hk := (if_neg (by exact fun h3' => hk.elim (fun h3 => aH (.T .A (.g (.c (.a .A .I))) (.w .B .A (.w (.s (.m 2 (.c .B)) (.c (.a .A .I))) .B .f))) rf [_,_] [_,_] h3 h3' hl) fun h3 => aH (.u .A (.s (.m 2 (.c .A)) (.c (.a .B .I))) (.l .A (.a .B .I) (.l .A (.a .B .I) (.T (.c (.a .B .I)) .B (.u .B .A .f))))) rf [_,_] [_,_] hl hi hi h3 h3')).trans (h.out k hk)
theorem PM.furth {l : Int} (h : PM F r i f) (hi : i ≤ r + 1) (hl : l = 2 * i - (r + 1 : Nat)) : furth f l = some (vY (F r) r i) := by
  unfold Mine.furth vY
  cases i with
  | zero =>
    rw [h.out (l - 1) (by exact .inl (aH (.u .A (.s (.m 2 (.c .O)) (.c (.a .A .I))) (.Q (.s .A .I) (.g (.c (.a .A .I))))) rf [_] [_] hl)), if_pos rfl]
    rw [show l + 1 = 2 * (0 : Nat) - (r : Int) by exact aH (.u .A (.s (.m 2 (.c .O)) (.c (.a .A .I))) (.O (.a .A .I) (.s (.m 2 (.c .O)) (.c .A)))) rf [_] [_] hl]; exact h.old 0 (aY r)
  | succ i =>
    rw [show l - 1 = 2 * i - (r : Int) by exact aH (.u .A (.s (.m 2 (.c (.a .A .I))) (.c (.a .B .I))) (.O (.s .A .I) (.s (.m 2 (.c .A)) (.c .B)))) rf [_,_] [_] hl, h.old i (cZ hi), if_neg (iG i), dJ]
    by_cases c : i + 1 = r + 1
    · rw [h.out (l + 1) (by exact .inr (aH (.i (.a .A .I) (.a .B .I) (.w (.s (.m 2 (.c (.a .B .I))) (.c (.a .A .I))) .A (.i (.a .A .I) (.a .B .I) (.Q (.c (.a .A .I)) (.a .A .I))))) rf [_,_] [_] c hl c)), if_pos c, fI.inj c]
    · rw [show l + 1 = 2 * (i + 1 : Nat) - (r : Int) by exact aH (.u .A (.s (.m 2 (.c (.a .A .I))) (.c (.a .B .I))) (.O (.a .A .I) (.s (.m 2 (.c (.a .A .I))) (.c .B)))) rf [_,_] [_] hl, h.old _ (dY (gr hi c)), if_neg c]
inductive Met (o : Option Int) (W x : Int) (M : Prop) : Prop
  | none (e : o = none) (n : ¬ M) : Met o W x M
  | yes {y} (e : o = some y) (h : W ≤ x + y) (m : M) : Met o W x M
  | no {y} (e : o = some y) (h : ¬ W ≤ x + y) (n : ¬ M) : Met o W x M
theorem CM.met {W T l : Int} {p : Nat} (h : CM G p f) (hl : l = 2 * i - (r : Int)) (par : (W - T + p + r) % 2 = 0) : Met (f (W - T - l)) W (F r i) (Mt F G W T r p i) := by
  obtain ⟨d, hd⟩ : ∃ d : Int, W - T + p + r = 2 * d := ⟨_, (Int.mul_ediv_cancel' (Int.dvd_of_emod_eq_zero par)).symm⟩
  by_cases c : -(p : Int) ≤ W - T - l ∧ W - T - l ≤ p
  · obtain ⟨j, hj⟩ : ∃ j : Nat, (j : Int) = d - i := ⟨(d - i).toNat, aE (by exact bh.mp fun h3' => aH (.T (.s .A (.c .A)) .O (.w (.s (.m 2 (.c .A)) (.c .B)) .B (.L (.g (.c .C)) (.s (.s .C .D) .B) (.u (.a (.a (.s .C .D) (.c .C)) (.c .B)) (.m 2 .A) (.T (.s .A (.c .A)) .O .f))))) rf [_,_,_] [_,_,_,_] h3' hl c.1 hd h3')⟩
    have hp : j ≤ p := by exact bz fun h3' => aH (.t .A .B (.u (.c .B) (.s .A (.c .C)) (.w (.m 2 .A) (.a (.a (.s .B .C) (.c .A)) (.c .D)) (.u .D (.s (.m 2 (.c .C)) (.c .D)) (.L (.s (.s .B .C) .D) (.c .A) (.u (.c .B) (.s .A (.c .C)) (.t .A .B .f))))))) rf [_,_,_,_] [_,_,_,_] h3' hj hd hl c.2 hj h3'
    have e := h.1 j hp
    rw [show 2 * j - (p : Int) = W - T - l by exact aH (.u .A (.s (.m 2 (.c .A)) (.c .B)) (.u (.c .C) (.s .B (.c .A)) (.u (.c .C) (.s .B (.c .A)) (.w (.m 2 .B) (.a (.a (.s .C .D) (.c .D)) (.c .B)) (.O (.s (.m 2 (.c .C)) (.c .D)) (.s (.s .C .D) .A)))))) rf [_,_,_,_] [_,_,_,_] hl hj hj hd] at e
    by_cases q : W ≤ F r i + G p j
    · exact .yes e q ⟨j, hp, by exact aH (.u (.c .A) (.s .A (.c .B)) (.u (.c .A) (.s .A (.c .B)) (.w (.m 2 .A) (.a (.a (.s .B .C) (.c .C)) (.c .D)) (.O (.m 2 (.a (.c .B) (.c .A))) (.a (.a (.s .B .C) (.c .C)) (.c .D)))))) rf [_,_,_,_] [_,_,_] hj hj hd, q⟩
    · exact .no e q fun ⟨j', _, b, d⟩ => q (by rw [show j = j' from bE (by exact bz fun h3' => aH (.t .A .B (.u (.c .B) (.s .A (.c .C)) (.w (.m 2 .A) (.a (.a (.s .B .C) (.c .D)) (.c .F)) (.w (.a (.a (.s .B .C) (.c .D)) (.c .F)) (.m 2 (.a (.c .C) (.c .A))) (.u (.c .B) (.s .A (.c .C)) (.t .A .B .f)))))) rf [_,_,_,_,_] [_,_,_] h3' hj hd b hj h3') (by exact bz fun h3' => aH (.t .A .B (.u (.m 2 (.a (.c .C) (.c .B))) (.a (.a (.s .A .B) (.c .D)) (.c .F)) (.u (.a (.a (.s .A .B) (.c .D)) (.c .F)) (.m 2 .C) (.w (.s .C (.c .C)) (.c .A) (.w (.s .C (.c .C)) (.c .A) (.t .A .B .f)))))) rf [_,_,_,_,_] [_,_,_] h3' b hd hj hj h3')]; exact d)
  · exact .none (h.2 _ (by exact (Decidable.not_and_iff_not_or_not.mp c).elim (fun h3 => .inl (aH (.T (.s (.s .A .B) .C) (.g (.c .A)) (.Q (.s (.s .A .B) .C) (.g (.c .A)))) rf [_] [_,_,_] (eW.mp h3))) fun h3 => .inr (aH (.T (.c .A) (.s (.s .A .B) .C) (.Q (.c .A) (.s (.s .A .B) .C))) rf [_] [_,_,_] (eW.mp h3)))) fun ⟨j', a, b, _⟩ => c (by exact ⟨aH (.u .A (.s (.m 2 (.c .A)) (.c .B)) (.u (.m 2 (.a (.c .A) (.c .C))) (.a (.a (.s .B .C) (.c .D)) (.c .B)) (.P (.g (.c .D)) (.s (.s .B .C) .A)))) rf [_,_,_,_] [_,_,_] hl b, aH (.w (.s (.m 2 (.c .A)) (.c .B)) .A (.w (.a (.a (.s .B .C) (.c .C)) (.c .B)) (.m 2 (.a (.c .A) (.c .D))) (.l .D .C (.l .D .C (.P (.s (.s .B .C) .A) (.c .C)))))) rf [_,_,_,_] [_,_,_] hl b a a⟩)
theorem CM.zero {eq : Int → Int → Bool} {W T : Int} : CM (FF eq W T) 0 wt :=
  ⟨fun j hj => by cases oK.mp hj; rfl, fun k hk => if_neg (by exact fun h3' => hk.elim (fun h3 => aH (.T .A (.g (.c .O)) (.w .O .A .f)) rf [] [_] h3 h3') fun h3 => aH (.T (.c .O) .A (.u .A .O .f)) rf [] [_] h3 h3')⟩
end
noncomputable def eqF (A B : List Int) (a0 b0 x y : Int) : Bool := gI A (a0 + x) == gI B (b0 + y)
noncomputable def eqB (A B : List Int) (a1 b1 x y : Int) : Bool := gI A (a1 - 1 - x) == gI B (b1 - 1 - y)
noncomputable abbrev hV (p : V) (a0 a1 b0 b1 m l x : Int) : List V := [.hd 0, p, .d (.int a0), .d (.int a1), .d (.int b0), .d (.int b1), .d (.int (a1 - a0)), .d (.int (b1 - b0)), .d (.int (a1 - a0 - (b1 - b0))), .hd 3, .hd 4, .d (.int m), .d (.int l), .d (.int x)]
section
variable {W : Wd} {n : Nat} {σ : List MO} {A B : List Int} {gone come : List Bool} {a0 a1 b0 b1 : Int} {p : V} {m l : Int} {Q : FX}
theorem snake1 (hs : σ[0]? = some (jT A B 1 2)) (h1 : 0 ≤ a0) (h3 : a1 ≤ A.length) (h4 : 0 ≤ b0) (h6 : b1 ≤ B.length) : ∀ (k : Nat) {x : Int}, 0 ≤ x → 0 ≤ x - l → a1 - a0 - x ≤ k → Q .next (hV p a0 a1 b0 b1 m l (xj (eqF A B a0 b0) (a1 - a0) (b1 - b0) l k x)) σ → cW ie h9 (k + 1) (hV p a0 a1 b0 b1 m l x) σ Q := by
  intro k
  induction k with
  | zero => exact fun x0 xl hk q => cn (by exact bh.mpr (aH (.L (.s (.s .A .B) .C) (.c .O) (.P (.s .A .B) .C)) rf [] [_,_,_] hk)) (aN rfl q)
  | succ k ih =>
    intro x x0 xl hk q
    unfold xj at q
    by_cases c1 : x < a1 - a0
    · refine cy c1 ?_
      by_cases c2 : x - l < b1 - b0
      · refine cy c2 ?_
        refine iz hs (aM (.it rfl (by exact aH (.L .O .A (.L .O .B (.P .O (.a .A .B)))) rf [] [_,_] h1 x0) (jx (by exact aH (.L .O .A (.L .O .B (.P .O (.a .A .B)))) rf [] [_,_] h1 x0) (by exact aH (.T .A (.s .B .C) (.L .B (.c .A) (.Q (.a .C .A) (.c .A)))) rf [_] [_,_,_] c1 h3))) ?_)
        refine iz hs (aM (.it rfl (by exact aH (.L .O .A (.L .O (.s .B .C) (.P .O (.s (.a .A .B) .C)))) rf [] [_,_,_] h4 xl) (jx (by exact aH (.L .O .A (.L .O (.s .B .C) (.P .O (.s (.a .A .B) .C)))) rf [] [_,_,_] h4 xl) (by exact aH (.T (.s .A .B) (.s .C .D) (.L .C (.c .A) (.Q (.s (.a .D .A) .B) (.c .A)))) rf [_] [_,_,_,_] c2 h6))) ?_)
        have e : eqF A B a0 b0 x (x - l) = (gI A (a0 + x) == gI B (b0 + x - l)) := by unfold eqF; rw [Int.add_sub_assoc]
        by_cases c3 : gI A (a0 + x) = gI B (b0 + x - l)
        · refine cy c3 (a6 rfl ?_)
          rw [if_pos ⟨c1, c2, e.trans (beq_iff_eq.mpr c3)⟩] at q
          exact ih (by exact aH (.L .O .A (.P .O (.a .A .I))) rf [] [_] x0) (by exact aH (.L .O (.s .A .B) (.P .O (.s (.a .A .I) .B))) rf [] [_,_] xl) (by exact aH (.L (.s (.s .A .B) .C) (.c (.a .A .I)) (.P (.s (.s .A .B) (.a .C .I)) (.c .A))) rf [_] [_,_,_] hk) q
        · rw [if_neg fun h => c3 (beq_iff_eq.mp (e.symm.trans h.2.2))] at q
          exact cn c3 (aN rfl q)
      · rw [if_neg fun h => c2 h.2.1] at q
        exact cn c2 (aN rfl q)
    · rw [if_neg fun h => c1 h.1] at q
      exact cn c1 (aN rfl q)
theorem snake2 (hs : σ[0]? = some (jT A B 1 2)) (h1 : 0 ≤ a0) (h3 : a1 ≤ A.length) (h4 : 0 ≤ b0) (h6 : b1 ≤ B.length) : ∀ (k : Nat) {x : Int}, 0 ≤ x → 0 ≤ x - l → a1 - a0 - x ≤ k → Q .next (hV p a0 a1 b0 b1 m l (xj (eqB A B a1 b1) (a1 - a0) (b1 - b0) l k x)) σ → cW h8 hN (k + 1) (hV p a0 a1 b0 b1 m l x) σ Q := by
  intro k
  induction k with
  | zero => exact fun x0 xl hk q => cn (by exact bh.mpr (aH (.L (.s (.s .A .B) .C) (.c .O) (.P (.s .A .B) .C)) rf [] [_,_,_] hk)) (aN rfl q)
  | succ k ih =>
    intro x x0 xl hk q
    unfold xj at q
    by_cases c1 : x < a1 - a0
    · refine cy c1 ?_
      by_cases c2 : x - l < b1 - b0
      · refine cy c2 ?_
        refine iz hs (aM (.it rfl (by exact aH (.T .A (.s .B .C) (.L .O .C (.P .O (.s (.s .B .I) .A)))) rf [] [_,_,_] c1 h1) (jx (by exact aH (.T .A (.s .B .C) (.L .O .C (.P .O (.s (.s .B .I) .A)))) rf [] [_,_,_] c1 h1) (by exact aH (.L .A (.c .A) (.L .O .B (.Q (.s (.s .A .I) .B) (.c .A)))) rf [_] [_,_] h3 x0))) ?_)
        refine iz hs (aM (.it rfl (by exact aH (.T (.s .A .B) (.s .C .D) (.L .O .D (.P .O (.a (.s (.s .C .I) .A) .B)))) rf [] [_,_,_,_] c2 h4) (jx (by exact aH (.T (.s .A .B) (.s .C .D) (.L .O .D (.P .O (.a (.s (.s .C .I) .A) .B)))) rf [] [_,_,_,_] c2 h4) (by exact aH (.L .A (.c .A) (.L .O (.s .B .C) (.Q (.a (.s (.s .A .I) .B) .C) (.c .A)))) rf [_] [_,_,_] h6 xl))) ?_)
        have e : eqB A B a1 b1 x (x - l) = (gI A (a1 - 1 - x) == gI B (b1 - 1 - x + l)) := by unfold eqB; rw [show b1 - 1 - (x - l) = b1 - 1 - x + l by exact aH (.O (.s (.s .A .I) (.s .B .C)) (.a (.s (.s .A .I) .B) .C)) rf [] [_,_,_]]
        by_cases c3 : gI A (a1 - 1 - x) = gI B (b1 - 1 - x + l)
        · refine cy c3 (a6 rfl ?_)
          rw [if_pos ⟨c1, c2, e.trans (beq_iff_eq.mpr c3)⟩] at q
          exact ih (by exact aH (.L .O .A (.P .O (.a .A .I))) rf [] [_] x0) (by exact aH (.L .O (.s .A .B) (.P .O (.s (.a .A .I) .B))) rf [] [_,_] xl) (by exact aH (.L (.s (.s .A .B) .C) (.c (.a .A .I)) (.P (.s (.s .A .B) (.a .C .I)) (.c .A))) rf [_] [_,_,_] hk) q
        · rw [if_neg fun h => c3 (beq_iff_eq.mp (e.symm.trans h.2.2))] at q
          exact cn c3 (aN rfl q)
      · rw [if_neg fun h => c2 h.2.1] at q
        exact cn c2 (aN rfl q)
    · rw [if_neg fun h => c1 h.1] at q
      exact cn c1 (aN rfl q)
end
noncomputable abbrev fF (A B : List Int) (a0 a1 b0 b1 : Int) : Nat → Nat → Int := FF (eqF A B a0 b0) (a1 - a0) (b1 - b0)
noncomputable abbrev fG (A B : List Int) (a0 a1 b0 b1 : Int) : Nat → Nat → Int := FF (eqB A B a1 b1) (a1 - a0) (b1 - b0)
noncomputable abbrev No1 (A B : List Int) (a0 a1 b0 b1 : Int) (r p m : Nat) : Prop := (a1 - a0 - (b1 - b0)).fmod 2 = 1 → ∀ k, k < m → ¬ Mt (fF A B a0 a1 b0 b1) (fG A B a0 a1 b0 b1) (a1 - a0) (b1 - b0) r p k
noncomputable abbrev No2 (A B : List Int) (a0 a1 b0 b1 : Int) (r m : Nat) : Prop := (a1 - a0 - (b1 - b0)).fmod 2 = 0 → ∀ k, k < m → ¬ Mt (fG A B a0 a1 b0 b1) (fF A B a0 a1 b0 b1) (a1 - a0) (b1 - b0) r r k
noncomputable abbrev hU (p : V) (a0 a1 b0 b1 : Int) (m e e' : V) : List V := [.hd 0, p, .d (.int a0), .d (.int a1), .d (.int b0), .d (.int b1), .d (.int (a1 - a0)), .d (.int (b1 - b0)), .d (.int (a1 - a0 - (b1 - b0))), .hd 3, .hd 4, m, e, e']
structure zs (a0 a1 b0 b1 x y : Int) : Prop where
  a : a0 ≤ x
  a' : x ≤ a1
  b : b0 ≤ y
  b' : y ≤ b1
  lo : a0 + b0 < x + y
  hi : x + y < a1 + b1
theorem box1 {a0 a1 b0 b1 x l : Int} {i t : Nat} (hl : l = 2 * i - (t + 1 : Nat)) (hi : i ≤ t + 1) (hg : (i : Int) ≤ x) (hm : x ≤ a1 - a0 ∧ x - l ≤ b1 - b0 ∧ ¬ (x = a1 - a0 ∧ x - l = b1 - b0)) : zs a0 a1 b0 b1 (a0 + x) (b0 + x - l) :=
  ⟨by exact aH (.L (.c .A) .A (.P .B (.a .B .A))) rf [_] [_,_] hg, by exact aH (.L .A (.s .B .C) (.P (.a .C .A) .B)) rf [] [_,_,_] hm.1, by exact aH (.u .A (.s (.m 2 (.c .A)) (.c (.a .B .I))) (.l .A (.a .B .I) (.L (.c .A) .B (.P .C (.s (.a .C .B) .A))))) rf [_,_] [_,_,_] hl hi hg, by exact aH (.L (.s .A .B) (.s .C .D) (.P (.s (.a .D .A) .B) .C)) rf [] [_,_,_,_] hm.2.1, by exact aH (.u .A (.s (.m 2 (.c .A)) (.c (.a .B .I))) (.L (.c .A) .B (.L (.c .A) .B (.Q (.a .C .D) (.a (.a .C .B) (.s (.a .D .B) .A)))))) rf [_,_] [_,_,_,_] hl hg hg, by exact (Decidable.not_and_iff_not_or_not.mp hm.2.2).elim (fun h3 => (jR h3).elim (fun h2 => aH (.L (.s .A .B) (.s .C .D) (.T .A (.s .F .G) (.Q (.a (.a .G .A) (.s (.a .D .A) .B)) (.a .F .C)))) rf [] [_,_,_,_,_,_] hm.2.1 h2) fun h2 => aH (.L (.s .A .B) (.s .C .D) (.L .A (.s .F .G) (.T (.s .F .G) .A (.L .A (.s .F .G) (.Q (.a (.a .G .A) (.s (.a .D .A) .B)) (.a .F .C)))))) rf [] [_,_,_,_,_,_] hm.2.1 hm.1 h2 hm.1) fun h3 => (jR h3).elim (fun h2 => aH (.T (.s .A .B) (.s .C .D) (.L .A (.s .F .G) (.Q (.a (.a .G .A) (.s (.a .D .A) .B)) (.a .F .C)))) rf [] [_,_,_,_,_,_] h2 hm.1) fun h2 => aH (.L (.s .A .B) (.s .C .D) (.L .A (.s .F .G) (.T (.s .C .D) (.s .A .B) (.L (.s .A .B) (.s .C .D) (.Q (.a (.a .G .A) (.s (.a .D .A) .B)) (.a .F .C)))))) rf [] [_,_,_,_,_,_] hm.2.1 hm.1 h2 hm.2.1⟩
theorem box2 {a0 a1 b0 b1 x l : Int} {i t : Nat} (hl : l = 2 * i - (t + 1 : Nat)) (hi : i ≤ t + 1) (hg : (i : Int) ≤ x) (hm : x ≤ a1 - a0 ∧ x - l ≤ b1 - b0 ∧ ¬ (x = a1 - a0 ∧ x - l = b1 - b0)) : zs a0 a1 b0 b1 (a1 - x) (b1 - x + l) :=
  ⟨by exact aH (.L .A (.s .B .C) (.P .C (.s .B .A))) rf [] [_,_,_] hm.1, by exact aH (.L (.c .A) .A (.P (.s .B .A) .B)) rf [_] [_,_] hg, by exact aH (.L (.s .A .B) (.s .C .D) (.P .D (.a (.s .C .A) .B))) rf [] [_,_,_,_] hm.2.1, by exact aH (.u .A (.s (.m 2 (.c .A)) (.c (.a .B .I))) (.l .A (.a .B .I) (.L (.c .A) .B (.P (.a (.s .C .B) .A) .C)))) rf [_,_] [_,_,_] hl hi hg, by exact (Decidable.not_and_iff_not_or_not.mp hm.2.2).elim (fun h3 => (jR h3).elim (fun h2 => aH (.L (.s .A .B) (.s .C .D) (.T .A (.s .F .G) (.Q (.a .G .D) (.a (.s .F .A) (.a (.s .C .A) .B))))) rf [] [_,_,_,_,_,_] hm.2.1 h2) fun h2 => aH (.L (.s .A .B) (.s .C .D) (.L .A (.s .F .G) (.T (.s .F .G) .A (.L .A (.s .F .G) (.Q (.a .G .D) (.a (.s .F .A) (.a (.s .C .A) .B))))))) rf [] [_,_,_,_,_,_] hm.2.1 hm.1 h2 hm.1) fun h3 => (jR h3).elim (fun h2 => aH (.T (.s .A .B) (.s .C .D) (.L .A (.s .F .G) (.Q (.a .G .D) (.a (.s .F .A) (.a (.s .C .A) .B))))) rf [] [_,_,_,_,_,_] h2 hm.1) fun h2 => aH (.L (.s .A .B) (.s .C .D) (.L .A (.s .F .G) (.T (.s .C .D) (.s .A .B) (.L (.s .A .B) (.s .C .D) (.Q (.a .G .D) (.a (.s .F .A) (.a (.s .C .A) .B))))))) rf [] [_,_,_,_,_,_] hm.2.1 hm.1 h2 hm.2.1, by exact aH (.u .A (.s (.m 2 (.c .A)) (.c (.a .B .I))) (.L (.c .A) .B (.L (.c .A) .B (.Q (.a (.s .C .B) (.a (.s .D .B) .A)) (.a .C .D))))) rf [_,_] [_,_,_,_] hl hg hg⟩
theorem rT {P : Nat → Prop} {m : Nat} (h : ∀ k, k < m → ¬ P k) (n : ¬ P m) : ∀ k, k < m + 1 → ¬ P k := fun k hk => (dg.mp hk).elim (h k) fun e => e ▸ n
theorem Ax {eq : Int → Int → Bool} {W T : Int} {r i : Nat} (h : i ≤ r + 1) : (i : Int) ≤ vY (FF eq W T r) r i := by
  have s := yF (F := FF eq W T r) h
  generalize vY (FF eq W T r) r i = x at s
  induction s using Src.casesOn with
  | right hk => exact fK (nU hk) 1
  | down hk => exact nU hk
theorem yK {σ : List MO} {a b : Int} : BiR σ .range [.d (.int a), .d (.int b), .d (.int 2)] (.d (.rng a b 2)) σ := .range3 (by decide) (by show 2 < 1073741824; decide)
theorem div_2 {σ : List MO} {a : Int} : BinR σ .FloorDiv (.d (.int a)) (.d (.int 2)) (.d (.int (a.fdiv 2))) σ := .divI (by decide) (by show 2 < 1073741824; decide)
theorem it_2 {t : Nat} {u : Int} (hu : u = (t + 1 : Nat)) (h : t ≤ 1000) : jG (.rng (-u) (u + 1) 2) = some (oM 2 (-u) (t + 2)) := by
  refine A8 (wf (by exact aH (.u .A (.c (.a .A .I)) (.l .A (.n 1000) (.P (.g (.n 1000000)) (.g .A)))) rf [_] [_] hu h) (by exact aH (.w (.c (.a .A .I)) .A (.P (.g .A) (.n 1000000))) rf [_] [_] hu) (by exact aH (.w (.c (.a .A .I)) .A (.P (.g (.n 1000000)) (.a .A .I))) rf [_] [_] hu) (by exact aH (.u .A (.c (.a .A .I)) (.l .A (.n 1000) (.P (.a .A .I) (.n 1000000)))) rf [_] [_] hu h) (by decide) (by decide)) ?_
  unfold Builtin.Range.rangeSize
  rw [if_pos (by decide), if_pos (by exact aH (.w (.c (.a .A .I)) .A (.w (.c (.a .A .I)) .A (.Q (.g .A) (.a .A .I)))) rf [_] [_] hu hu), show u + 1 - -u - 1 = 2 * u by exact aH (.O (.s (.s (.a .A .I) (.g .A)) .I) (.m 2 .A)) rf [] [_], xh _ (by decide)]; subst hu; rfl
theorem par1 {s : Int} {t : Nat} (o : s.fmod 2 = 1) : (s + t + (t + 1 : Nat)) % 2 = 0 := by rw [fJ _ (by decide)] at o; rw [show s + t + (t + 1 : Nat) = 2 * (s / 2 + t + 1) by exact aH (.w .A (.a (.m 2 .B) .C) (.u .C .I (.O (.a (.a .A (.c .A)) (.c (.a .A .I))) (.m 2 (.a (.a .B (.c .A)) .I))))) rf [_] [_,_,_] (dK _ 2) o]; exact Int.mul_emod_right _ _
theorem par2 {s : Int} {t : Nat} (o : s.fmod 2 = 0) : (s + (t : Nat) + (t : Nat)) % 2 = 0 := by rw [fJ _ (by decide)] at o; rw [show s + t + t = 2 * (s / 2 + t) by exact aH (.w .A (.a (.m 2 .B) .C) (.u .C .O (.O (.a (.a .A (.c .A)) (.c .A)) (.m 2 (.a .B (.c .A)))))) rf [_] [_,_,_] (dK _ 2) o]; exact Int.mul_emod_right _ _
section
variable {W : Wd} {n : Nat} {A B : List Int} {gone come : List Bool} {a0 a1 b0 b1 : Int} {p : V} {Q : FX} {t : Nat} {u : Int}
theorem loop1 (hW : Wk W) (h1 : 0 ≤ a0) (h3 : a1 ≤ A.length) (h4 : 0 ≤ b0) (h6 : b1 ≤ B.length) {g : Int → Option Int} {w z0 : Nat} (hz : z0 + (t + 2) ≤ 16777216) (cg : CM (fG A B a0 a1 b0 b1) t g)
    (qr : ∀ (i : Nat) (l : Int) ρ σ, (a1 - a0 - (b1 - b0)).fmod 2 = 1 → i ≤ t + 1 → l = 2 * i - (t + 1 : Nat) → Mt (fF A B a0 a1 b0 b1) (fG A B a0 a1 b0 b1) (a1 - a0) (b1 - b0) (t + 1) t i → Q (.ret (.tup [.int (a0 + fF A B a0 a1 b0 b1 (t + 1) i), .int (b0 + fF A B a0 a1 b0 b1 (t + 1) i - l)])) ρ ([jT A B 1 2, eX gone, eX come] ++ σ))
    (qn : ∀ f z e e', z ≤ z0 + (t + 2) → CM (fF A B a0 a1 b0 b1) (t + 1) f → No1 A B a0 a1 b0 b1 (t + 1) t (t + 2) → Q .next (hU p a0 a1 b0 b1 (.d (.int u)) e e') [jT A B 1 2, eX gone, eX come, .imap f z, .imap g w]) :
    ∀ (m : Nat) {i : Nat} {l : Int} {f : Int → Option Int} {z : Nat} {e e' : V}, i + m = t + 2 → l = 2 * i - (t + 1 : Nat) → z ≤ z0 + i → PM (fF A B a0 a1 b0 b1) t i f → No1 A B a0 a1 b0 b1 (t + 1) t i → gl (fj (CallP W (n + 1))) 12 (oM 2 l m) (hU p a0 a1 b0 b1 (.d (.int u)) e e') [jT A B 1 2, eX gone, eX come, .imap f z, .imap g w] Q
  | 0, i, l, f, z, e, e', hm, hl, z1, P, no => by cases hm; exact qn f z e e' z1 P.done no
  | m + 1, i, l, f, z, e, e', hm, hl, z1, P, no => by
    have hi : i ≤ t + 1 := by exact aH (.e (.a .A (.a .B .I)) (.a .C (.n 2)) (.p .A (.a .C .I))) rf [_,_,_] [] hm
    have sg : (i : Int) ≤ vY (fF A B a0 a1 b0 b1 t) t i := Ax hi
    refine s5 hW (k := 3) rfl (P.furth hi hl) ?_
    refine iH _ (snake1 rfl h1 h3 h4 h6 (a1 - a0 - vY (fF A B a0 a1 b0 b1 t) t i).toNat ?_ ?_ (Int.self_le_toNat _) ?_)
    · exact b9 (av i) sg
    · exact aH (.u .A (.s (.m 2 (.c .A)) (.c (.a .B .I))) (.e (.a .A (.a .C .I)) (.a .B (.n 2)) (.L (.c .A) .B (.P .O (.s .B .A))))) rf [_,_,_] [_,_] hl hm sg
    have e : xj (eqF A B a0 b0) (a1 - a0) (b1 - b0) l (a1 - a0 - vY (fF A B a0 a1 b0 b1 t) t i).toNat (vY (fF A B a0 a1 b0 b1 t) t i) = fF A B a0 a1 b0 b1 (t + 1) i := by rw [hl]; rfl
    rw [e]
    refine pX (.imap rfl (aL z1 (by exact aH (.l (.a .A (.a .B (.n 2))) (.n 16777216) (.e (.a .C (.a .D .I)) (.a .B (.n 2)) (.q (.a .A .C) (.n 16777216)))) rf [_,_,_,_] [] hz hm))) ?_
    have P' := P.step hi hl
    have fin : No1 A B a0 a1 b0 b1 (t + 1) t (i + 1) → gl (fj (CallP W (n + 1))) 12 (oM 2 (l + 2) m) (hV p a0 a1 b0 b1 u l (fF A B a0 a1 b0 b1 (t + 1) i)) [jT A B 1 2, eX gone, eX come, .imap (yD f l (fF A B a0 a1 b0 b1 (t + 1) i)) (z + 1), .imap g w] Q :=
      loop1 hW h1 h3 h4 h6 hz cg qr qn m (by exact aH (.e (.a .A (.a .B .I)) (.a .C (.n 2)) (.o (.a (.a .A .I) .B) (.a .C (.n 2)))) rf [_,_,_] [] hm) (by exact aH (.u .A (.s (.m 2 (.c .A)) (.c (.a .B .I))) (.O (.a .A (.n 2)) (.s (.m 2 (.c (.a .A .I))) (.c (.a .B .I))))) rf [_,_] [_] hl) (by exact aH (.l .A (.a .B .C) (.p (.a .A .I) (.a .B (.a .C .I)))) rf [_,_,_] [] z1) P'
    refine af (.modI (by decide)) ?_
    by_cases o : (a1 - a0 - (b1 - b0)).fmod 2 = 1
    · refine cy o (aw (.mem (.imap rfl)) ?_)
      cases cg.met (F := fF A B a0 a1 b0 b1) (i := i) (r := t + 1) (W := a1 - a0) (T := b1 - b0) hl (par1 o) with
      | none e n => rw [e]; exact aN rfl (aN rfl (fin fun o => rT (no o) n))
      | no e h n => rw [e]; exact a6 rfl (aM (.imap rfl e) (cn h (aN rfl (fin fun o => rT (no o) n))))
      | yes e h m => rw [e]; exact a6 rfl (aM (.imap rfl e) (cy h (a6 rfl (qr i l _ _ o hi hl m))))
    · exact cn o (aN rfl (fin fun o' => (o o').elim))
theorem loop2 (hW : Wk W) (h1 : 0 ≤ a0) (h3 : a1 ≤ A.length) (h4 : 0 ≤ b0) (h6 : b1 ≤ B.length) {f : Int → Option Int} {w z0 : Nat} (hz : z0 + (t + 2) ≤ 16777216) (cf : CM (fF A B a0 a1 b0 b1) (t + 1) f)
    (qr : ∀ (i : Nat) (l : Int) ρ σ, (a1 - a0 - (b1 - b0)).fmod 2 = 0 → i ≤ t + 1 → l = 2 * i - (t + 1 : Nat) → Mt (fG A B a0 a1 b0 b1) (fF A B a0 a1 b0 b1) (a1 - a0) (b1 - b0) (t + 1) (t + 1) i → Q (.ret (.tup [.int (a1 - fG A B a0 a1 b0 b1 (t + 1) i), .int (b1 - fG A B a0 a1 b0 b1 (t + 1) i + l)])) ρ ([jT A B 1 2, eX gone, eX come] ++ σ))
    (qn : ∀ g z e e', z ≤ z0 + (t + 2) → CM (fG A B a0 a1 b0 b1) (t + 1) g → No2 A B a0 a1 b0 b1 (t + 1) (t + 2) → Q .next (hU p a0 a1 b0 b1 (.d (.int u)) e e') [jT A B 1 2, eX gone, eX come, .imap f w, .imap g z]) :
    ∀ (m : Nat) {i : Nat} {l : Int} {g : Int → Option Int} {z : Nat} {e e' : V}, i + m = t + 2 → l = 2 * i - (t + 1 : Nat) → z ≤ z0 + i → PM (fG A B a0 a1 b0 b1) t i g → No2 A B a0 a1 b0 b1 (t + 1) i → gl (fi (CallP W (n + 1))) 12 (oM 2 l m) (hU p a0 a1 b0 b1 (.d (.int u)) e e') [jT A B 1 2, eX gone, eX come, .imap f w, .imap g z] Q
  | 0, i, l, g, z, e, e', hm, hl, z1, P, no => by cases hm; exact qn g z e e' z1 P.done no
  | m + 1, i, l, g, z, e, e', hm, hl, z1, P, no => by
    have hi : i ≤ t + 1 := by exact aH (.e (.a .A (.a .B .I)) (.a .C (.n 2)) (.p .A (.a .C .I))) rf [_,_,_] [] hm
    have sg : (i : Int) ≤ vY (fG A B a0 a1 b0 b1 t) t i := Ax hi
    refine s5 hW (k := 4) rfl (P.furth hi hl) ?_
    refine iH _ (snake2 rfl h1 h3 h4 h6 (a1 - a0 - vY (fG A B a0 a1 b0 b1 t) t i).toNat ?_ ?_ (Int.self_le_toNat _) ?_)
    · exact b9 (av i) sg
    · exact aH (.u .A (.s (.m 2 (.c .A)) (.c (.a .B .I))) (.e (.a .A (.a .C .I)) (.a .B (.n 2)) (.L (.c .A) .B (.P .O (.s .B .A))))) rf [_,_,_] [_,_] hl hm sg
    have e : xj (eqB A B a1 b1) (a1 - a0) (b1 - b0) l (a1 - a0 - vY (fG A B a0 a1 b0 b1 t) t i).toNat (vY (fG A B a0 a1 b0 b1 t) t i) = fG A B a0 a1 b0 b1 (t + 1) i := by rw [hl]; rfl
    rw [e]
    refine pX (.imap rfl (aL z1 (by exact aH (.l (.a .A (.a .B (.n 2))) (.n 16777216) (.e (.a .C (.a .D .I)) (.a .B (.n 2)) (.q (.a .A .C) (.n 16777216)))) rf [_,_,_,_] [] hz hm))) ?_
    have P' := P.step hi hl
    have fin : No2 A B a0 a1 b0 b1 (t + 1) (i + 1) → gl (fi (CallP W (n + 1))) 12 (oM 2 (l + 2) m) (hV p a0 a1 b0 b1 u l (fG A B a0 a1 b0 b1 (t + 1) i)) [jT A B 1 2, eX gone, eX come, .imap f w, .imap (yD g l (fG A B a0 a1 b0 b1 (t + 1) i)) (z + 1)] Q :=
      loop2 hW h1 h3 h4 h6 hz cf qr qn m (by exact aH (.e (.a .A (.a .B .I)) (.a .C (.n 2)) (.o (.a (.a .A .I) .B) (.a .C (.n 2)))) rf [_,_,_] [] hm) (by exact aH (.u .A (.s (.m 2 (.c .A)) (.c (.a .B .I))) (.O (.a .A (.n 2)) (.s (.m 2 (.c (.a .A .I))) (.c (.a .B .I))))) rf [_,_] [_] hl) (by exact aH (.l .A (.a .B .C) (.p (.a .A .I) (.a .B (.a .C .I)))) rf [_,_,_] [] z1) P'
    refine af (.modI (by decide)) ?_
    by_cases o : (a1 - a0 - (b1 - b0)).fmod 2 = 0
    · refine cy o (aw (.mem (.imap rfl)) ?_)
      cases cf.met (F := fG A B a0 a1 b0 b1) (i := i) (r := t + 1) (W := a1 - a0) (T := b1 - b0) hl (par2 o) with
      | none e n => rw [e]; exact aN rfl (aN rfl (fin fun o => rT (no o) n))
      | no e h n => rw [e]; exact a6 rfl (aM (.imap rfl e) (cn h (aN rfl (fin fun o => rT (no o) n))))
      | yes e h m => rw [e]; exact a6 rfl (aM (.imap rfl e) (cy h (a6 rfl (qr i l _ _ o hi hl m))))
    · exact cn o (aN rfl (fin fun o' => (o o').elim))
theorem AG (hW : Wk W) (h1 : 0 ≤ a0) (h3 : a1 ≤ A.length) (h4 : 0 ≤ b0) (h6 : b1 ≤ B.length) {R : Nat} (hR : R ≤ 1000)
    (q1 : ∀ (t i : Nat) (l : Int) ρ σ, i ≤ t + 1 → l = 2 * i - (t + 1 : Nat) → (∀ s k, t = s + 1 → k ≤ t → ¬ Mt (fF A B a0 a1 b0 b1) (fG A B a0 a1 b0 b1) (a1 - a0) (b1 - b0) t s k) → Mt (fF A B a0 a1 b0 b1) (fG A B a0 a1 b0 b1) (a1 - a0) (b1 - b0) (t + 1) t i → Q (.ret (.tup [.int (a0 + fF A B a0 a1 b0 b1 (t + 1) i), .int (b0 + fF A B a0 a1 b0 b1 (t + 1) i - l)])) ρ ([jT A B 1 2, eX gone, eX come] ++ σ))
    (q2 : ∀ (t i : Nat) (l : Int) ρ σ, i ≤ t + 1 → l = 2 * i - (t + 1 : Nat) → (∀ k, k ≤ t → ¬ Mt (fG A B a0 a1 b0 b1) (fF A B a0 a1 b0 b1) (a1 - a0) (b1 - b0) t t k) → Mt (fG A B a0 a1 b0 b1) (fF A B a0 a1 b0 b1) (a1 - a0) (b1 - b0) (t + 1) (t + 1) i → Q (.ret (.tup [.int (a1 - fG A B a0 a1 b0 b1 (t + 1) i), .int (b1 - fG A B a0 a1 b0 b1 (t + 1) i + l)])) ρ ([jT A B 1 2, eX gone, eX come] ++ σ))
    (qn : ((a1 - a0 - (b1 - b0)).fmod 2 = 1 → ∀ s k, R = s + 1 → k ≤ R → ¬ Mt (fF A B a0 a1 b0 b1) (fG A B a0 a1 b0 b1) (a1 - a0) (b1 - b0) R s k) → No2 A B a0 a1 b0 b1 R (R + 1) → False) :
    ∀ (m : Nat) {t : Nat} {u : Int} {f g : Int → Option Int} {z z' : Nat} {e e' e'' : V}, t + m = R → u = (t + 1 : Nat) → z ≤ 2000 * t + 1 → z' ≤ 2000 * t + 1 → CM (fF A B a0 a1 b0 b1) t f → CM (fG A B a0 a1 b0 b1) t g →
      ((a1 - a0 - (b1 - b0)).fmod 2 = 1 → ∀ s k, t = s + 1 → k ≤ t → ¬ Mt (fF A B a0 a1 b0 b1) (fG A B a0 a1 b0 b1) (a1 - a0) (b1 - b0) t s k) → No2 A B a0 a1 b0 b1 t (t + 1) → gl (hJ (CallP W (n + 1))) 11 (oM 1 u m) (hU p a0 a1 b0 b1 e e' e'') [jT A B 1 2, eX gone, eX come, .imap f z, .imap g z'] Q
  | 0, t, u, f, g, z, z', e, e', e'', hm, hu, hz, hz', cf, cg, no1, no2 => by cases hm; exact (qn no1 no2).elim
  | m + 1, t, u, f, g, z, z', e, e', e'', hm, hu, hz, hz', cf, cg, no1, no2 => by
    have ht : t ≤ 1000 := by exact aH (.e (.a .A (.a .B .I)) .C (.l .C (.n 1000) (.p .A (.n 1000)))) rf [_,_,_] [] hm hR
    have ze : z + (t + 2) ≤ 16777216 := by exact aH (.l .A (.n 1000) (.l .B (.a (.m 2000 .A) .I) (.l (.m 2000 .A) (.m 2000 (.n 1000)) (.p (.a .B (.a .A (.n 2))) (.n 16777216))))) rf [_,_] [] ht hz (a5 2000 ht)
    have ze' : z' + (t + 2) ≤ 16777216 := by exact aH (.l .A (.n 1000) (.l .B (.a (.m 2000 .A) .I) (.l (.m 2000 .A) (.m 2000 (.n 1000)) (.p (.a .B (.a .A (.n 2))) (.n 16777216))))) rf [_,_] [] ht hz' (a5 2000 ht)
    have ir := it_2 hu (by exact aH (.e (.a .A (.a .B .I)) .C (.l .C (.n 1000) (.p .A (.n 1000)))) rf [_,_,_] [] hm hR)
    refine af yK (ef (d := .rng (-u) (u + 1) 2) ir ?_)
    refine loop1 hW h1 h3 h4 h6 (z0 := z) ze cg (fun i l ρ σ o hi hl => ?_) (fun f z e e' hz cf no1' => ?_) (t + 2) (i := 0) (aS _) (by exact aH (.w (.c (.a .A .I)) .A (.O (.g .A) (.s (.m 2 (.c .O)) (.c (.a .A .I))))) rf [_] [_] hu) (au _) (.start cf) nofun
    · exact q1 t i l ρ _ hi hl (no1 o)
    refine af yK (ef (d := .rng (-u) (u + 1) 2) ir ?_)
    refine loop2 hW h1 h3 h4 h6 (z0 := z') ze' cf (fun i l ρ σ o hi hl => ?_) (fun g z' e e' hz' cg no2' => ?_) (t + 2) (i := 0) (aS _) (by exact aH (.w (.c (.a .A .I)) .A (.O (.g .A) (.s (.m 2 (.c .O)) (.c (.a .A .I))))) rf [_] [_] hu) (au _) (.start cg) nofun
    · exact q2 t i l ρ _ hi hl fun k hk => no2 o k (cz hk)
    exact AG hW h1 h3 h4 h6 hR q1 q2 qn m (by exact aH (.e (.a .A (.a .B .I)) .C (.o (.a (.a .A .I) .B) .C)) rf [_,_,_] [] hm) (by exact aH (.u .A (.c (.a .A .I)) (.O (.a .A .I) (.c (.a (.a .A .I) .I)))) rf [_] [_] hu) (by exact aH (.l .A (.a .B (.a .C (.n 2))) (.l .B (.a (.m 2000 .C) .I) (.e (.a .C (.a .D .I)) .F (.l .F (.n 1000) (.p .A (.a (.m 2000 (.a .C .I)) .I)))))) rf [_,_,_,_,_] [] hz (by assumption) hm hR) (by exact aH (.l .A (.a .B (.a .C (.n 2))) (.l .B (.a (.m 2000 .C) .I) (.e (.a .C (.a .D .I)) .F (.l .F (.n 1000) (.p .A (.a (.m 2000 (.a .C .I)) .I)))))) rf [_,_,_,_,_] [] hz' (by assumption) hm hR) cf cg (fun o s k e hk => by cases e; exact no1' o k (cz hk)) no2'
theorem zQ (hW : Wk W) {σ : List MO} {k k1 k2 : Nat} {Q : VQ} (S : ShAt σ k A B k1 k2 gone come) (h1 : 0 ≤ a0) (h2 : a0 < a1) (h3 : a1 ≤ A.length) (h4 : 0 ≤ b0) (h5 : b0 < b1) (h6 : b1 ≤ B.length) (hsz : A.length + B.length ≤ 1000)
    (d1 : gI A a0 ≠ gI B b0) (d2 : gI A (a1 - 1) ≠ gI B (b1 - 1))
    (q : ∀ x y, zs a0 a1 b0 b1 x y → Q (.d (.tup [.int x, .int y])) σ) : CallP W (n + 2) 236 [.hd k, .d (i0 a0 a1 b0 b1)] σ Q := by
  refine fnS S hW (ws := [.hd 0, .d (i0 a0 a1 b0 b1)]) rfl rfl rfl ?_
  refine af div_2 ?_
  have W0 : 0 < a1 - a0 := Int.sub_pos_of_lt h2
  have T0 : 0 < b1 - b0 := Int.sub_pos_of_lt h5
  obtain ⟨R, e, hR, hR1, rr, rr', ir⟩ : ∃ (R : Nat) (e : Int), (a1 - a0 + (b1 - b0) + 1).fdiv 2 + 1 = e ∧ R ≤ 1000 ∧ 2 * (R : Int) = a1 - a0 + (b1 - b0) + (a1 - a0 - (b1 - b0)).fmod 2 ∧ ((a1 - a0 - (b1 - b0)).fmod 2 = 0 ∨ (a1 - a0 - (b1 - b0)).fmod 2 = 1) ∧ jG (.rng 1 e 1) = some (oM 1 1 R) := by
    rw [fJ _ (by decide), jS _ (by decide)]
    have o := Int.emod_two_eq (a1 - a0 - (b1 - b0))
    obtain ⟨h, e, eh⟩ : ∃ h : Int, (a1 - a0 + (b1 - b0) + 1) / 2 = h ∧ 2 * h = a1 - a0 + (b1 - b0) + (a1 - a0 - (b1 - b0)) % 2 := by
      rcases o with o | o
      · exact ⟨(a1 - a0 - (b1 - b0)) / 2 + (b1 - b0), by rw [show a1 - a0 + (b1 - b0) + 1 = 1 + 2 * ((a1 - a0 - (b1 - b0)) / 2 + (b1 - b0)) by exact aH (.w (.s (.s .A .B) (.s .C .D)) (.a (.m 2 .F) .G) (.u .G .O (.O (.a (.a (.s .A .B) (.s .C .D)) .I) (.a .I (.m 2 (.a .F (.s .C .D))))))) rf [] [_,_,_,_,_,_] (dK _ 2) o, Int.add_mul_ediv_left _ _ (by decide)]; exact fN _, by exact aH (.u (.a (.m 2 .A) .B) (.s (.s .C .D) (.s .F .G)) (.w .O .B (.w .O .B (.O (.m 2 (.a .A (.s .F .G))) (.a (.a (.s .C .D) (.s .F .G)) .B))))) rf [] [_,_,_,_,_,_] (dK _ 2) o o⟩
      · exact ⟨(a1 - a0 - (b1 - b0)) / 2 + (b1 - b0) + 1, by rw [show a1 - a0 + (b1 - b0) + 1 = 2 * ((a1 - a0 - (b1 - b0)) / 2 + (b1 - b0) + 1) by exact aH (.w (.s (.s .A .B) (.s .C .D)) (.a (.m 2 .F) .G) (.u .G .I (.O (.a (.a (.s .A .B) (.s .C .D)) .I) (.m 2 (.a (.a .F (.s .C .D)) .I))))) rf [] [_,_,_,_,_,_] (dK _ 2) o, xh _ (by decide)], by exact aH (.u (.a (.m 2 .A) .B) (.s (.s .C .D) (.s .F .G)) (.w .I .B (.w .I .B (.O (.m 2 (.a (.a .A (.s .F .G)) .I)) (.a (.a (.s .C .D) (.s .F .G)) .B))))) rf [] [_,_,_,_,_,_] (dK _ 2) o o⟩
    have k0 : 0 ≤ (a1 - a0 - (b1 - b0)) % 2 := bV _ (by decide)
    have k1 : (a1 - a0 - (b1 - b0)) % 2 < 2 := cM _ (by decide)
    generalize (a1 - a0 - (b1 - b0)) % 2 = d at eh o k0 k1
    have hx : a1 - a0 + (b1 - b0) ≤ 1000 := by exact aH (.L .O .A (.L .B (.c .A) (.l (.a .A .B) (.n 1000) (.L .O .C (.L .D (.c .B) (.P (.a (.s .B .A) (.s .D .C)) (.n 1000))))))) rf [_,_] [_,_,_,_] h1 h3 hsz h4 h6
    have hh5 : h ≤ 1000 := by exact bh.mp fun h3' => aH (.T (.n 1000) .A (.u (.m 2 .A) (.a (.a (.s .B .C) (.s .D .F)) .G) (.L (.a (.s .B .C) (.s .D .F)) (.n 1000) (.T (.n 1000) .A (.T .G (.n 2) .f))))) rf [] [_,_,_,_,_,_] h3' eh hx h3' k1
    have h' := it_1 (a := 1) (b := h + 1) (by decide) (by decide) (by exact bh.mp fun h3' => aH (.T .A .B (.w (.a (.a (.s .B .A) (.s .C .D)) .F) (.m 2 .G) (.T .D .C (.T (.a .G .I) (.g (.n 1000000)) (.T (.a .G .I) (.g (.n 1000000)) (.L .O .F .f)))))) rf [] [_,_,_,_,_,_] h2 eh h5 h3' h3' k0) (by exact aH (.L .A (.n 1000) (.P (.a .A .I) (.n 1000000))) rf [] [_] hh5)
    rw [e]
    rw [cP] at h'
    have n : ((h.toNat : Nat) : Int) = h := aE (by exact bh.mp fun h3' => aH (.T .A .B (.w (.a (.a (.s .B .A) (.s .C .D)) .F) (.m 2 .G) (.T .D .C (.T .G .O (.T .G .O (.L .O .F .f)))))) rf [] [_,_,_,_,_,_] h2 eh h5 h3' h3' k0)
    exact ⟨_, _, rfl, by exact aH (.u (.c .A) .A (.L .A (.n 1000) (.p .A (.n 1000)))) rf [_] [_] n hh5, by exact aH (.u (.m 2 .A) (.a (.a (.s .B .C) (.s .D .F)) .G) (.u (.c .A) .A (.u (.c .A) .A (.O (.m 2 (.c .A)) (.a (.a (.s .B .C) (.s .D .F)) .G))))) rf [_] [_,_,_,_,_,_] eh n n, o, h'⟩
  refine af (.range2 _ _) ?_
  rw [hR]
  refine ef (d := .rng 1 e 1) ir ?_
  have qq : ∀ x y, zs a0 a1 b0 b1 x y → Q (.d (.tup [.int x, .int y])) (((σ.set k (jT A B k1 k2)).set k1 (eX gone)).set k2 (eX come)) := by rw [S.same]; exact q
  refine AG hW h1 h3 h4 h6 hR1 (fun t i l ρ σ hi hl no m => ?_) (fun t i l ρ σ hi hl no m => ?_) (fun n1 n2 => ?_) R (t := 0) (aS _) rfl (au _) (au _) .zero .zero nofun fun o k hk ⟨j, a, b, c⟩ => ?_
  · refine qq _ _ (box1 hl hi (nU hi) (hl ▸ mt_in W0 T0 (.inl rfl) hi (by unfold eqF; rw [show a0 + (a1 - a0 - 1) = a1 - 1 by exact aH (.O (.a .A (.s (.s .B .A) .I)) (.s .B .I)) rf [] [_,_], show b0 + (b1 - b0 - 1) = b1 - 1 by exact aH (.O (.a .A (.s (.s .B .A) .I)) (.s .B .I)) rf [] [_,_]]; exact beq_false_of_ne d2) no m))
  · refine qq _ _ (box2 hl hi (nU hi) (hl ▸ mt_in W0 T0 (.inr rfl) hi (by unfold eqB; rw [show a1 - 1 - (a1 - a0 - 1) = a0 by exact aH (.O (.s (.s .A .I) (.s (.s .A .B) .I)) .B) rf [] [_,_], show b1 - 1 - (b1 - b0 - 1) = b0 by exact aH (.O (.s (.s .A .I) (.s (.s .A .B) .I)) .B) rf [] [_,_]]; exact beq_false_of_ne d1) (fun q k e hk => by cases e; exact no k hk) m))
  · rcases rr' with o | o
    · obtain ⟨i, hi, m⟩ := ww (eq := eqB A B a1 b1) (eq' := eqF A B a0 b0) (r := R) (p := R) W0 T0 (by exact aH (.u (.m 2 (.c .A)) (.a (.a (.s .A .B) (.s .C .D)) .F) (.u .F .O (.O (.a (.c .A) (.c .A)) (.a (.s .A .B) (.s .C .D))))) rf [_] [_,_,_,_,_] rr o) (bO _) (au _)
      exact n2 o i (cz hi) m
    · obtain ⟨p, rfl⟩ : ∃ p, R = p + 1 := ⟨R - 1, by exact (l7 ..).elim (fun h3 => aH (.i .A (.a .B .I) (.o .A (.a .B .I))) rf [_,_] [] (aJ h3)) fun h3 => aH (.i .A (.a .B .I) (.o .A (.a .B .I))) rf [_,_] [] (aJ (aH (.T .A .B (.w (.a (.a (.s .B .A) (.s .C .D)) .F) (.m 2 (.c .A)) (.T .D .C (.l .A .I (.w .I .F (.p .I .A)))))) rf [_] [_,_,_,_,_] h2 rr h5 h3 o))⟩
      obtain ⟨i, hi, m⟩ := ww (eq := eqF A B a0 b0) (eq' := eqB A B a1 b1) (r := p + 1) (p := p) W0 T0 (by exact aH (.u (.m 2 (.c (.a .A .I))) (.a (.a (.s .A .B) (.s .C .D)) .F) (.u .F .I (.O (.a (.c (.a .A .I)) (.c .A)) (.a (.s .A .B) (.s .C .D))))) rf [_] [_,_,_,_,_] rr o) (au _) (bO _)
      exact n1 o p i rfl hi m
  · cases oK.mp a
    exact absurd (qD W0 c) (dF _)
end
inductive Aln (A B : List Int) (g c : List Bool) (e f : Nat) : Nat → Nat → Prop
  | nil : Aln A B g c e f e f
  | mat {i j x} (a : A[i]? = some x) (b : B[j]? = some x) (p : g[i]? = some false) (q : c[j]? = some false) (r : Aln A B g c e f (i + 1) (j + 1)) : Aln A B g c e f i j
  | gone {i j} (p : g[i]? = some true) (r : Aln A B g c e f (i + 1) j) : Aln A B g c e f i j
  | come {i j} (q : c[j]? = some true) (r : Aln A B g c e f i (j + 1)) : Aln A B g c e f i j
section
variable {A B : List Int} {g c g' c' : List Bool} {e f m n i j : Nat}
theorem Aln.le (h : Aln A B g c e f i j) : i ≤ e ∧ j ≤ f := by
  induction h with
  | nil => exact ⟨au _, au _⟩
  | mat _ _ _ _ _ ih => exact ⟨bf ih.1, bf ih.2⟩
  | gone _ _ ih => exact ⟨bf ih.1, ih.2⟩
  | come _ _ ih => exact ⟨ih.1, bf ih.2⟩
theorem Aln.join (h' : Aln A B g c e f m n) (h : Aln A B g c m n i j) : Aln A B g c e f i j := by
  induction h with
  | nil => exact h'
  | mat a b p q _ ih => exact .mat a b p q ih
  | gone p _ ih => exact .gone p ih
  | come q _ ih => exact .come q ih
theorem Aln.congr (h : Aln A B g c e f i j) : (∀ k, i ≤ k → k < e → g'[k]? = g[k]?) → (∀ k, j ≤ k → k < f → c'[k]? = c[k]?) → Aln A B g' c' e f i j := by
  induction h with
  | nil => exact fun _ _ => .nil
  | mat a b p q r ih => exact fun h1 h2 => .mat a b ((h1 _ (au _) r.le.1).trans p) ((h2 _ (au _) r.le.2).trans q) (ih (fun k h => h1 k (bf h)) fun k h => h2 k (bf h))
  | gone p r ih => exact fun h1 h2 => .gone ((h1 _ (au _) r.le.1).trans p) (ih (fun k h => h1 k (bf h)) h2)
  | come q r ih => exact fun h1 h2 => .come ((h2 _ (au _) r.le.2).trans q) (ih h1 fun k h => h2 k (bf h))
theorem Aln.run (h : Aln A B g c e f m n) : ∀ (u : Nat) {i j : Nat}, i + u = m → j + u = n → (∀ t, t < u → ∃ x, A[i + t]? = some x ∧ B[j + t]? = some x) → (∀ k, i ≤ k → k < m → g[k]? = some false) → (∀ k, j ≤ k → k < n → c[k]? = some false) → Aln A B g c e f i j
  | 0, i, j, hm, hn, _, _, _ => by cases hm; cases hn; exact h
  | u + 1, i, j, hm, hn, hx, hg, hc =>
    have ⟨x, a, b⟩ := hx 0 (cK u)
    .mat a b (hg i (au _) (hm ▸ co (cK u))) (hc j (au _) (hn ▸ co (cK u))) (h.run u ((bv i u).trans hm) ((bv j u).trans hn) (fun t l => (bv i t).symm ▸ (bv j t).symm ▸ hx (t + 1) (tH l)) (fun k h => hg k (bf h)) fun k h => hc k (bf h))
theorem Aln.outs (h : Aln A B g c e f m n) : ∀ (d : Nat) {i : Nat}, i + d = m → (∀ k, i ≤ k → k < m → g[k]? = some true) → Aln A B g c e f i n
  | 0, i, hm, _ => by cases hm; exact h
  | d + 1, i, hm, h1 => .gone (h1 i (au _) (hm ▸ co (cK d))) (h.outs d ((bv i d).trans hm) fun k h => h1 k (bf h))
theorem Aln.ins (h : Aln A B g c e f m n) : ∀ (d : Nat) {j : Nat}, j + d = n → (∀ k, j ≤ k → k < n → c[k]? = some true) → Aln A B g c e f m j
  | 0, j, hm, _ => by cases hm; exact h
  | d + 1, j, hm, h1 => .come (h1 j (au _) (hm ▸ co (cK d))) (h.ins d ((bv j d).trans hm) fun k h => h1 k (bf h))
theorem Aln.skip (h : Aln A B g c e f i j) : i < e → g[i]? = some true → Aln A B g c e f (i + 1) j := by
  induction h with
  | nil => exact fun l => absurd l (bA _)
  | mat _ _ p => exact fun _ q => nomatch p.symm.trans q
  | gone _ r => exact fun _ _ => r
  | come q r ih => exact fun l p => .come q (ih l p)
theorem Aln.skip' (h : Aln A B g c e f i j) : j < f → c[j]? = some true → Aln A B g c e f i (j + 1) := by
  induction h with
  | nil => exact fun l => absurd l (bA _)
  | mat _ _ _ p => exact fun _ q => nomatch p.symm.trans q
  | come _ r => exact fun _ _ => r
  | gone q r ih => exact fun l p => .gone q (ih l p)
theorem Aln.tail {w : Nat} (h : Aln A B g c e f i j) (mg : ∀ k : Nat, g[k]? = some true → k + w < e) (mc : ∀ k : Nat, c[k]? = some true → k + w < f) : (i + w ≤ e ∧ j + w ≤ f) ∨ i + f = j + e := by
  induction h with
  | nil => exact .inr (bq _ _)
  | mat _ _ _ _ _ ih => clear mg mc; exact ih.elim (fun h3 => .inl (⟨aH (.l (.a (.a .A .I) .B) .C (.p (.a .A .B) .C)) rf [_,_,_] [] h3.1, aH (.l (.a (.a .A .I) .B) .C (.p (.a .A .B) .C)) rf [_,_,_] [] h3.2⟩)) fun h3 => .inr (aH (.e (.a (.a .A .I) .B) (.a (.a .C .I) .D) (.o (.a .A .B) (.a .C .D))) rf [_,_,_,_] [] h3)
  | gone p _ ih => have := mg _ p; clear mg mc; exact .inl (⟨aH (.t (.a .A .B) .C (.p (.a .A .B) .C)) rf [_,_,_] [] this, ih.elim (fun h3 => aH (.l (.a .A .B) .C (.p (.a .A .B) .C)) rf [_,_,_] [] h3.2) fun h3 => aH (.t (.a .A .B) .C (.i (.a .D .C) (.a (.a .A .I) .F) (.p (.a .D .B) .F))) rf [_,_,_,_,_] [] this h3⟩)
  | come q _ ih => have := mc _ q; clear mg mc; exact .inl (⟨ih.elim (fun h3 => aH (.l (.a .A .B) .C (.p (.a .A .B) .C)) rf [_,_,_] [] h3.1) fun h3 => aH (.t (.a .A .B) .C (.e (.a .D .C) (.a (.a .A .I) .F) (.p (.a .D .B) .F))) rf [_,_,_,_,_] [] this h3, aH (.t (.a .A .B) .C (.p (.a .A .B) .C)) rf [_,_,_] [] this⟩)
end
structure yz where
  a0 : Nat
  a1 : Nat
  b0 : Nat
  b1 : Nat
inductive Inv (A B : List Int) (g c : List Bool) : List yz → Nat → Nat → Prop
  | nil {e f} (h : Aln A B g c e f 0 0) : Inv A B g c [] e f
  | cons {w x e f} (r : Inv A B g c w x.a0 x.b0) (la : x.a0 ≤ x.a1) (lb : x.b0 ≤ x.b1) (ua : ∀ k, x.a0 ≤ k → k < x.a1 → g[k]? = some false) (ub : ∀ k, x.b0 ≤ k → k < x.b1 → c[k]? = some false) (al : Aln A B g c e f x.a1 x.b1) : Inv A B g c (x :: w) e f
section
variable {A B : List Int} {g c g' c' : List Bool} {e f e' f' : Nat} {w : List yz}
theorem Inv.more (h : Inv A B g c w e f) (a : Aln A B g c e' f' e f) : Inv A B g c w e' f' := by
  induction h using Inv.casesOn with
  | nil h => exact .nil (a.join h)
  | cons r la lb ua ub al => exact .cons r la lb ua ub (a.join al)
theorem Inv.congr (h : Inv A B g c w e f) : (∀ k, k < e → g'[k]? = g[k]?) → (∀ k, k < f → c'[k]? = c[k]?) → Inv A B g' c' w e f := by
  induction h with
  | nil h => exact fun h1 h2 => .nil (h.congr (fun k _ => h1 k) fun k _ => h2 k)
  | cons r la lb ua ub al ih =>
    exact fun h1 h2 => have la' := ab la al.le.1; have lb' := ab lb al.le.2
      .cons (ih (fun k h => h1 k (ax h la')) fun k h => h2 k (ax h lb')) la lb (fun k h h' => (h1 k (ax h' al.le.1)).trans (ua k h h')) (fun k h h' => (h2 k (ax h' al.le.2)).trans (ub k h h')) (al.congr (fun k _ => h1 k) fun k _ => h2 k)
end
noncomputable def boxD (x : yz) : D := i0 x.a0 x.a1 x.b0 x.b1
inductive Flw : List yz → Nat → Prop
  | nil {m} : Flw [] m
  | cons {x w s m m'} (r : Flw w m) (h : x.a1 + x.b1 ≤ x.a0 + x.b0 + (s + 1)) (l : m + (2 * s + 1) ≤ m') : Flw (x :: w) m'
theorem Flw.mono {w : List yz} {m m' : Nat} (h : Flw w m) (l : m ≤ m') : Flw w m' := by
  induction h using Flw.casesOn with
  | nil => exact .nil
  | cons r h k => exact .cons r h (ab k l)
theorem Flw.pop {x : yz} {w : List yz} {m : Nat} (h : Flw (x :: w) (m + 1)) : Flw w m := by
  cases h with | cons r h l => exact r.mono (aG (cZ l))
theorem Flw.len {w : List yz} {m : Nat} (h : Flw w m) : w.length ≤ m := by
  induction h with
  | nil => exact aY _
  | cons r h l ih => exact ab (aA ih (aK 1 _)) l
theorem Flw.split {w : List yz} {m a0 b0 p q u v x y : Nat} (h : Flw (⟨a0, p + v, b0, q + v⟩ :: w) (m + 1)) (lo : a0 + u + (b0 + u) < x + y) (hi : x + y < p + q) : Flw (⟨x, p, y, q⟩ :: ⟨a0 + u, x, b0 + u, y⟩ :: w) m := by
  cases h with | @cons _ _ s k _ r h l =>
  obtain ⟨i, hi⟩ := eE hi
  obtain ⟨j, lo⟩ := eE lo
  have h' : i + j + 1 ≤ s := by dsimp only at h; exact aH (.i (.a (.a (.a .A .B) .C) .I) (.a .D .F) (.l (.a (.a .D .G) (.a .F .G)) (.a (.a .H (.v 7)) (.a (.v 8) .I)) (.i (.a (.a (.a (.a .H (.v 9)) (.a (.v 7) (.v 9))) (.v 10)) .I) (.a .A .B) (.p (.a (.a .C (.v 10)) .I) (.v 8))))) rf [_,_,_,_,_,_,_,_,_,_,_] [] hi h lo
  exact .cons (.cons r (aW lo) (au _)) (aW hi) (by exact aH (.l (.a .A (.a (.m 2 .B) .I)) (.a .C .I) (.l (.a (.a .D .F) .I) .B (.l (.a (.a .D .F) .I) .B (.p (.a (.a .A (.a (.m 2 .F) .I)) (.a (.m 2 .D) .I)) .C)))) rf [_,_,_,_,_] [] l h' h')
structure Rgn (A B : List Int) (w : List yz) (g c : List Bool) (u v : Nat) : Prop where
  tr : Trim A B 0 A.length 0 B.length u v
  box : ∀ x ∈ w, u ≤ x.a0 ∧ x.a1 + v ≤ A.length ∧ u ≤ x.b0 ∧ x.b1 + v ≤ B.length
  mg : ∀ i : Nat, g[i]? = some true → u ≤ i ∧ i + v < A.length
  mc : ∀ i : Nat, c[i]? = some true → u ≤ i ∧ i + v < B.length
theorem uw {l : List Bool} {x y : Int} {i : Nat} : (eJ l x y)[i]? = l[i]?.map fun b => b || (decide (x ≤ (i : Int)) && decide ((i : Int) < y)) := by
  unfold eJ; rw [List.getElem?_mapIdx]
theorem mn {l : List Bool} {x y i : Nat} (h : i < x ∨ y ≤ i) : (eJ l x y)[i]? = l[i]? := by
  have e : (decide ((x : Int) ≤ (i : Int)) && decide ((i : Int) < (y : Int))) = false := by
    rcases h with h | h
    · rw [decide_eq_false (by exact eW.mpr (aH (.t .A .B (.Q (.c .A) (.c .B))) rf [_,_] [] h)), uT]
    · rw [decide_eq_false (p := (i : Int) < y) (by exact bh.mpr (aH (.l .A .B (.P (.c .A) (.c .B))) rf [_,_] [] h)), uU]
  rw [uw, e]
  cases l[i]? with
  | none => rfl
  | some b => rw [Option.map_some, wb]
theorem wD {l : List Bool} {x y i : Nat} (h : x ≤ i) (h' : i < y) (hl : i < l.length) : (eJ l x y)[i]? = some true := by
  rw [uw, aO hl, Option.map_some, decide_eq_true (by exact aH (.l .A .B (.P (.c .A) (.c .B))) rf [_,_] [] h), decide_eq_true (by exact aH (.t .A .B (.Q (.c .A) (.c .B))) rf [_,_] [] h')]
  cases l[i] <;> rfl
theorem sP {l : List Bool} {x y i : Nat} (h : (eJ l x y)[i]? = some true) : l[i]? = some true ∨ (x ≤ i ∧ i < y) :=
  if c : x ≤ i then if c' : i < y then .inr ⟨c, c'⟩ else .inl ((mn (.inr (a7.mp c'))).symm.trans h) else .inl ((mn (.inl (gn.mp c))).symm.trans h)
theorem qo {A : List Int} {i : Nat} (h : i < A.length) : A[i]? = some (gI A i) := by
  unfold gI; rw [fA, b8, aO h]; rfl
theorem sF {m i : Nat} (h : (ay m false)[i]? = some true) : False := by
  obtain ⟨a, b⟩ := aQ.mp h
  rw [List.getElem_replicate] at b; cases b
section
variable {A B : List Int} {g c : List Bool} {a0 b0 p q u v e f : Nat}
theorem Trim.pres {a1 b1 : Int} (tr : Trim A B a0 a1 b0 b1 u v) (xa : a0 + u ≤ A.length) (xb : b0 + u ≤ B.length) : ∀ t, t < u → ∃ x, A[a0 + t]? = some x ∧ B[b0 + t]? = some x := fun t l =>
  ⟨_, qo (ax (dy l a0) xa), by
    rw [dW, tr.pre t (av t) (bj.mpr l), ← dW]; exact qo (ax (dy l b0) xb)⟩
theorem Trim.sufs {a0 b0 : Int} (tr : Trim A B a0 (p + v : Nat) b0 (q + v : Nat) u v) (xa : p + v ≤ A.length) (xb : q + v ≤ B.length) : ∀ t, t < v → ∃ x, A[p + t]? = some x ∧ B[q + t]? = some x := fun t l =>
  ⟨_, qo (ax (dy l p) xa), by
    have e : gI A (p + t : Nat) = gI B (q + t : Nat) := by
      clear xa xb
      obtain ⟨s, rfl⟩ := eE l
      have := tr.suf s (av s) (bj.mpr (cz (aK s t)))
      rw [show ((p + (t + s + 1) : Nat) : Int) - 1 - s = (p + t : Nat) by exact aH (.O (.s (.s (.c (.a .A (.a (.a .B .C) .I))) .I) (.c .C)) (.c (.a .A .B))) rf [_,_,_] [], show ((q + (t + s + 1) : Nat) : Int) - 1 - s = (q + t : Nat) by exact aH (.O (.s (.s (.c (.a .A (.a (.a .B .C) .I))) .I) (.c .C)) (.c (.a .A .B))) rf [_,_,_] []] at this
      exact this
    rw [e]; exact qo (ax (dy l q) xb)⟩
end
section
variable {A B : List Int} {g c : List Bool} {a0 b0 p q u v : Nat} {w : List yz}
inductive Stg (A B : List Int) : List yz → List Bool → List Bool → Prop
  | one : Stg A B [⟨0, A.length, 0, B.length⟩] (ay A.length false) (ay B.length false)
  | rgn {w : List yz} {g c : List Bool} {u v : Nat} (h : Rgn A B w g c u v) : Stg A B w g c
theorem Stg.trim (h : Stg A B (⟨a0, p + v, b0, q + v⟩ :: w) g c) (tr : Trim A B a0 (p + v : Nat) b0 (q + v : Nat) u v) (la : a0 + u ≤ p) (lb : b0 + u ≤ q) : ∃ U V, Rgn A B w g c U V ∧ U ≤ a0 + u ∧ p + V ≤ A.length ∧ U ≤ b0 + u ∧ q + V ≤ B.length := by
  generalize hx : (⟨a0, p + v, b0, q + v⟩ : yz) :: w = l at h
  induction h using Stg.casesOn with
  | one =>
    injection hx with e e'
    injection e with e1 e2 e3 e4
    cases e'; subst e1 e3
    rw [e2, e4] at tr
    exact ⟨u, v, ⟨tr, nofun, fun i h => (sF h).elim, fun i h => (sF h).elim⟩, aK _ _, aW e2, aK _ _, aW e4⟩
  | @rgn _ _ _ U V R =>
    subst hx
    obtain ⟨b1, b2, b3, b4⟩ := R.box _ (.head _)
    exact ⟨U, V, ⟨R.tr, fun x h => R.box x (.tail _ h), R.mg, R.mc⟩, bL b1, ab (aC (ai p v) V) b2, bL b3, ab (aC (ai q v) V) b4⟩
theorem Rgn.mark {U V : Nat} (R : Rgn A B w g c U V) (h1 : U ≤ a0) (h2 : p + V ≤ A.length) (h3 : U ≤ b0) (h4 : q + V ≤ B.length) : Rgn A B w (eJ g a0 p) (eJ c b0 q) U V :=
  ⟨R.tr, R.box, fun i h => (sP h).elim (R.mg i) fun ⟨a, b⟩ => ⟨ab h1 a, ax (Ae b V) h2⟩, fun i h => (sP h).elim (R.mc i) fun ⟨a, b⟩ => ⟨ab h3 a, ax (Ae b V) h4⟩⟩
theorem Rgn.push {U V a1 b1 : Nat} (R : Rgn A B w g c U V) (h1 : U ≤ a0) (h2 : a1 + V ≤ A.length) (h3 : U ≤ b0) (h4 : b1 + V ≤ B.length) : Rgn A B (⟨a0, a1, b0, b1⟩ :: w) g c U V :=
  ⟨R.tr, fun x h => by
    cases h with
    | head => exact ⟨h1, h2, h3, h4⟩
    | tail _ h => exact R.box x h, R.mg, R.mc⟩
theorem Inv.mark {e f : Nat} (h : Inv A B g c (⟨a0, p + v, b0, q + v⟩ :: w) e f) (tr : Trim A B a0 (p + v : Nat) b0 (q + v : Nat) u v) (la : a0 + u ≤ p) (lb : b0 + u ≤ q) (lg : g.length = A.length) (lc : c.length = B.length) (le : e ≤ A.length) (lf : f ≤ B.length) : Inv A B (eJ g (a0 + u : Nat) p) (eJ c (b0 + u : Nat) q) w e f := by
  cases h with | cons r xa xb ua ub al =>
  have ea := ab al.le.1 le
  have eb := ab al.le.2 lf
  have pa : p ≤ A.length := ab (ai p v) ea
  have qb : q ≤ B.length := ab (ai q v) eb
  have la' : a0 ≤ p := ab (ai a0 u) la
  have lb' : b0 ≤ q := ab (ai b0 u) lb
  have oa : ∀ {k : Nat}, k < a0 + u ∨ p ≤ k → (eJ g (a0 + u : Nat) p)[k]? = g[k]? := mn
  have ob : ∀ {k : Nat}, k < b0 + u ∨ q ≤ k → (eJ c (b0 + u : Nat) q)[k]? = c[k]? := mn
  have r1 := al.congr (g' := eJ g (a0 + u : Nat) p) (c' := eJ c (b0 + u : Nat) q) (fun k h _ => oa (.inr (ab (ai p v) h))) fun k h _ => ob (.inr (ab (ai q v) h))
  have r2 : Aln A B (eJ g (a0 + u : Nat) p) (eJ c (b0 + u : Nat) q) e f p q := Aln.run r1 v rfl rfl (tr.sufs ea eb) (fun k h h' => (oa (.inr h)).trans (ua k (ab la' h) h')) fun k h h' => (ob (.inr h)).trans (ub k (ab lb' h) h')
  have r3 := (r2.ins (q - (b0 + u)) (ew lb) fun k h h' => wD h h' (lc ▸ ax (ax h' (ai q v)) eb)).outs (p - (a0 + u)) (ew la) fun k h h' => wD h h' (lg ▸ ax (ax h' (ai p v)) ea)
  exact (r.congr (fun k h => oa (.inl (Nat.lt_add_right u h))) fun k h => ob (.inl (Nat.lt_add_right u h))).more (Aln.run r3 u rfl rfl (tr.pres (ab la pa) (ab lb qb)) (fun k h h' => (oa (.inl h')).trans (ua k h (ax h' (bL la)))) fun k h h' => (ob (.inl h')).trans (ub k h (ax h' (bL lb))))
theorem Inv.split {e f x y : Nat} (h : Inv A B g c (⟨a0, p + v, b0, q + v⟩ :: w) e f) (tr : Trim A B a0 (p + v : Nat) b0 (q + v : Nat) u v) (la : a0 + u ≤ x) (la' : x ≤ p) (lb : b0 + u ≤ y) (lb' : y ≤ q) (le : e ≤ A.length) (lf : f ≤ B.length) : Inv A B g c (⟨x, p, y, q⟩ :: ⟨a0 + u, x, b0 + u, y⟩ :: w) e f := by
  cases h with | cons r xa xb ua ub al =>
  have ea := ab al.le.1 le
  have eb := ab al.le.2 lf
  have pa : p ≤ A.length := ab (ai p v) ea
  have qb : q ≤ B.length := ab (ai q v) eb
  have xa' : a0 ≤ x := ab (ai a0 u) la
  have yb' : b0 ≤ y := ab (ai b0 u) lb
  have kp : ∀ {k}, k < p → k < p + v := fun h => ax h (ai p v)
  have kq : ∀ {k}, k < q → k < q + v := fun h => ax h (ai q v)
  refine .cons (.cons (r.more ?_) la lb (fun k h h' => ua k (aG h) (kp (ax h' la'))) (fun k h h' => ub k (aG h) (kq (ax h' lb'))) .nil) la' lb' (fun k h h' => ua k (ab xa' h) (kp h')) (fun k h h' => ub k (ab yb' h) (kq h')) ?_
  · exact Aln.run .nil u rfl rfl (tr.pres (ab la (ab la' pa)) (ab lb (ab lb' qb))) (fun k h h' => ua k h (kp (ax h' (ab la la')))) fun k h h' => ub k h (kq (ax h' (ab lb lb')))
  · exact al.run v rfl rfl (tr.sufs ea eb) (fun k h => ua k (ab xa' (ab la' h))) fun k h => ub k (ab yb' (ab lb' h))
end
section
variable {W : Wd} {n : Nat} {A B : List Int} {σ : List MO} {Q : VQ}
theorem we (hW : Wk W) {k k1 k2 a0 a1 b0 b1 : Nat} {gone come : List Bool} (S : ShAt σ k A B k1 k2 gone come) (h2 : a0 ≤ a1) (h3 : a1 ≤ A.length) (h5 : b0 ≤ b1) (h6 : b1 ≤ B.length)
    (q : ∀ u v x y : Nat, a1 = x + v → b1 = y + v → Trim A B a0 (x + v : Nat) b0 (y + v : Nat) u v → a0 + u ≤ x → b0 + u ≤ y → Q (.d (i0 (a0 + u : Nat) x (b0 + u : Nat) y)) σ) : CallP W (n + 1) 215 [.hd k, .d (boxD ⟨a0, a1, b0, b1⟩)] σ Q := by
  show CallP W (n + 1) 215 [.hd k, .d (i0 a0 a1 b0 b1)] σ Q
  refine xv hW S (av _) (bM.mpr h2) (bM.mpr h3) (av _) (bM.mpr h5) (bM.mpr h6) fun u v tr => ?_
  obtain ⟨u, rfl⟩ := bF tr.u0
  obtain ⟨v, rfl⟩ := bF tr.v0
  have a := tr.ua
  have b := tr.ub
  obtain ⟨x, rfl⟩ : ∃ x, a1 = x + v := ⟨a1 - v, by exact aH (.i .A (.a .B .C) (.o .A (.a .B .C))) rf [_,_,_] [] (aJ (aH (.L (.a (.c .A) (.c .B)) (.s (.c .C) (.c .D)) (.p .B .C)) rf [_,_,_,_] [] a))⟩
  obtain ⟨y, rfl⟩ : ∃ y, b1 = y + v := ⟨b1 - v, by exact aH (.i .A (.a .B .C) (.o .A (.a .B .C))) rf [_,_,_] [] (aJ (aH (.L (.a (.c .A) (.c .B)) (.s (.c .C) (.c .D)) (.p .B .C)) rf [_,_,_,_] [] b))⟩
  rw [dW x v, dW y v, cP, cP, ← dW, ← dW]
  exact q u v x y rfl rfl tr (by exact aH (.L (.a (.c .A) (.c .B)) (.s (.c (.a .C .B)) (.c .D)) (.p (.a .D .A) .C)) rf [_,_,_,_] [] a) (by exact aH (.L (.a (.c .A) (.c .B)) (.s (.c (.a .C .B)) (.c .D)) (.p (.a .D .A) .C)) rf [_,_,_,_] [] b)
theorem ne_snoc {α : Type} {l : List α} {y : α} : (l ++ [y]).length ≠ ([] : List α).length := by rw [ac]; exact iG _
theorem Trim.d1 {a0 b0 p q u v : Nat} (tr : Trim A B a0 (p + v : Nat) b0 (q + v : Nat) u v) (la : a0 + u < p) (lb : b0 + u < q) : gI A (a0 + u : Nat) ≠ gI B (b0 + u : Nat) :=
  tr.max.resolve_left (fun e => by exact aH (.t (.a .A .B) .C (.w (.c (.a .C .D)) (.a (.c .A) (.c .B)) .f)) rf [_,_,_,_] [] la e) |>.resolve_left fun e => by exact aH (.t (.a .A .B) .C (.w (.c (.a .C .D)) (.a (.c .A) (.c .B)) .f)) rf [_,_,_,_] [] lb e
theorem Trim.d2 {a0 b0 p q u v : Nat} (tr : Trim A B a0 (p + v : Nat) b0 (q + v : Nat) u v) (la : a0 + u < p) (lb : b0 + u < q) : gI A ((p : Int) - 1) ≠ gI B ((q : Int) - 1) := by
  have h := tr.max'
  rw [dW p v, dW q v, cP, cP] at h
  exact h.resolve_left (fun e => by exact aH (.t (.a .A .B) .C (.w (.c .C) (.a (.c .A) (.c .B)) .f)) rf [_,_,_] [] la e) |>.resolve_left fun e => by exact aH (.t (.a .A .B) .C (.w (.c .C) (.a (.c .A) (.c .B)) .f)) rf [_,_,_] [] lb e
theorem qg (hW : Wk W) {pt : V} {Q : FX} (hsz : A.length + B.length ≤ 1000) (fin : ∀ gone come ρ u v, gone.length = A.length → come.length = B.length → Aln A B gone come A.length B.length 0 0 → Rgn A B [] gone come u v → Q .next ρ [jT A B 1 2, eX gone, eX come, .list []]) :
    ∀ (m : Nat) {w : List yz} {gone come : List Bool} {e3 e4 e5 e6 e7 e8 : V}, Flw w m → m ≤ 2000 → gone.length = A.length → come.length = B.length → Inv A B gone come w A.length B.length → Stg A B w gone come →
      cW dI (dH (CallP W (n + 2))) (m + 1) [.hd 0, pt, .hd 3, e3, e4, e5, e6, e7, e8] [jT A B 1 2, eX gone, eX come, .list (w.map boxD).reverse] Q
  | m, [], gone, come, _, _, _, _, _, _, hm, hm2, lg, lc, inv, st => by
    refine af (.d rfl) (aw (.ne (.lst rfl rfl .nil)) (aN rfl ?_))
    cases inv with | nil al => cases st with | rgn R => exact fin gone come _ _ _ lg lc al R
  | 0, x :: w, gone, come, _, _, _, _, _, _, hm, _, _, _, _, _ => absurd hm.len (iT _)
  | m + 1, ⟨a0, a1, b0, b1⟩ :: w, gone, come, e3, e4, e5, e6, e7, e8, hm, hm2, lg, lc, inv, st => by
    have hm' : Flw w m := hm.pop
    rw [cG, dU]
    refine af (.d rfl) (aw (.ne (.lens rfl rfl ne_snoc)) (a6 rfl ?_))
    refine af (.pop rfl) ?_
    have ⟨xa, xb, ea, eb⟩ : a0 ≤ a1 ∧ b0 ≤ b1 ∧ a1 ≤ A.length ∧ b1 ≤ B.length := by cases inv with | cons r la lb ua ub al => exact ⟨la, lb, al.le.1, al.le.2⟩
    refine we hW (k := 0) (k1 := 1) (k2 := 2) ⟨rfl, rfl, rfl, by decide⟩ xa ea xb eb fun u v p q hp hq tr la lb => ?_
    have hq2 := hp
    have hq3 := hq
    subst hp hq
    have pa : p ≤ A.length := aG ea
    have qb : q ≤ B.length := aG eb
    have ⟨U, V, R, r1, r2, r3, r4⟩ := st.trim tr la lb
    have mk : (fw (CallP W (n + 2))) [.hd 0, pt, .hd 3, .d (.int (a0 + u : Nat)), .d (.int p), .d (.int (b0 + u : Nat)), .d (.int q), e7, e8] [jT A B 1 2, eX gone, eX come, .list (w.map boxD).reverse] (gZ aq (nB (cW dI (dH (CallP W (n + 2))) (m + 1)) Q)) := by
      refine mark_ok hW (k := 0) (k1 := 1) (k2 := 2) (A := A) (B := B) (gone := gone) (come := come) ⟨rfl, rfl, rfl, by decide⟩ (by exact aH (.e .A .B (.l (.a .B .C) (.n 1000) (.p .A (.n 1000000)))) rf [_,_,_] [] lg hsz) (by exact aH (.e .A .B (.l (.a .C .B) (.n 1000) (.p .A (.n 1000000)))) rf [_,_,_] [] lc hsz) (av _) (bM.mpr la) (bM.mpr (lg ▸ pa)) (av _) (bM.mpr lb) (bM.mpr (lc ▸ qb)) ?_
      exact qg hW hsz fin m hm' (bf hm2) (markL_len.trans lg) (markL_len.trans lc) (inv.mark tr la lb lg lc (au _) (au _)) (.rgn (R.mark r1 r2 r3 r4))
    by_cases c1 : ((a0 + u : Nat) : Int) = p
    · exact cy c1 (a6 rfl mk)
    refine cn c1 ?_
    by_cases c2 : ((b0 + u : Nat) : Int) = q
    · exact cy c2 (a6 rfl mk)
    refine cn c2 (aN rfl ?_)
    clear mk
    have la' := gr la fun e => c1 (congrArg _ e)
    have lb' := gr lb fun e => c2 (congrArg _ e)
    refine zQ hW (k := 0) (k1 := 1) (k2 := 2) (A := A) (B := B) (gone := gone) (come := come) ⟨rfl, rfl, rfl, by decide⟩ (av _) (bj.mpr la') (bM.mpr pa) (av _) (bj.mpr lb') (bM.mpr qb) hsz (tr.d1 la' lb') (tr.d2 la' lb') fun x y I => ?_
    obtain ⟨x, rfl⟩ := bF (b9 (av _) I.a)
    obtain ⟨y, rfl⟩ := bF (b9 (av _) I.b)
    have ia := bM.mp I.a
    have ia' := bM.mp I.a'
    have ib := bM.mp I.b
    have ib' := bM.mp I.b'
    have lw := hm'.len
    refine af (.append rfl (by rw [er, ah]; exact aL (ab lw (bf hm2)) (by decide))) (af (.append rfl (by rw [ac, er, ah]; exact aL (ab (aC lw 1) hm2) (by decide))) ?_)
    have := qg hW hsz fin m (pt := pt) (w := ⟨x, p, y, q⟩ :: ⟨a0 + u, x, b0 + u, y⟩ :: w) (e3 := .d (.int (a0 + u : Nat))) (e4 := .d (.int p)) (e5 := .d (.int (b0 + u : Nat))) (e6 := .d (.int q)) (e7 := .d (.int x)) (e8 := .d (.int y)) (hm.split (bj.mp I.lo) (bj.mp I.hi)) (bf hm2) lg lc (inv.split tr ia ia' ib ib' (au _) (au _)) (.rgn ((R.push r1 (ab (aC ia' V) r2) r3 (ab (aC ib' V) r4)).push (ab r1 ia) r2 (ab r3 ib) r4))
    rw [cG, dU, cG, dU] at this
    exact this
theorem sO (hW : Wk W) {k k1 k2 : Nat} (S : ShAt σ k A B k1 k2 (ay A.length false) (ay B.length false)) (hsz : A.length + B.length ≤ 1000)
    (q : ∀ gone come u v, gone.length = A.length → come.length = B.length → Aln A B gone come A.length B.length 0 0 → Rgn A B [] gone come u v → Q (.d .none) ((σ.set k1 (eX gone)).set k2 (eX come))) : CallP W (n + 3) 243 [.hd k, .d (i0 0 A.length 0 B.length)] σ Q := by
  refine fnS S hW (ws := [.hd 0, .d (i0 0 A.length 0 B.length)]) rfl rfl rfl ?_
  refine af (.hd rfl) (iH 2001 ?_)
  refine qg hW hsz (fun gone come ρ u v lg lc al R => ?_) 2000 (w := [⟨0, A.length, 0, B.length⟩]) (.cons (s := 999) (m := 0) .nil (by rw [aS]; exact hsz) (by decide)) (au _) be be ?_ .one
  · show Q _ (((σ.set k (jT A B k1 k2)).set k1 _).set k2 _)
    rw [dL S.i]
    exact q gone come u v lg lc al R
  · exact .cons (.nil .nil) (aY _) (aY _) (fun k _ h => tI h) (fun k _ h => tI h) .nil
end
structure dA where
  a0 : Nat
  a1 : Nat
  b0 : Nat
  b1 : Nat
noncomputable def xm (c : dA) : D := .inst 150 [.int c.a0, .int c.a1, .int c.b0, .int c.b1]
noncomputable def sU (cs : List dA) (i : Nat) : Prop := ∀ c, cs.getLast? = some c → c.a1 < i
inductive Dfs {α : Type} (A B : List α) : List dA → Nat → Nat → Prop
  | nil : Dfs A B [] 0 0
  | step {cs i j x} (h : Dfs A B cs i j) (a : A[i]? = some x) (b : B[j]? = some x) : Dfs A B cs (i + 1) (j + 1)
  | chg {cs i j i' j'} (h : Dfs A B cs i j) (lo : sU cs i) (li : i ≤ i') (lj : j ≤ j') (ne : i < i' ∨ j < j') (la : i' ≤ A.length) (lb : j' ≤ B.length) : Dfs A B (cs ++ [⟨i, i', j, j'⟩]) i' j'
theorem Dfs.last_le {α : Type} {A B : List α} {cs : List dA} {i j : Nat} (h : Dfs A B cs i j) : sU cs (i + 1) := by
  induction h with
  | nil => exact fun c h => bm h
  | step _ _ _ ih => exact fun c h => fo (ih c h)
  | chg _ _ _ _ _ _ _ _ => exact fun c h => by rw [nN] at h; cases h; exact bw _
noncomputable def CIn (A B : List Int) (u v : Nat) (cs : List dA) : Prop := ∀ c ∈ cs, u ≤ c.a0 ∧ c.a1 + v ≤ A.length ∧ u ≤ c.b0 ∧ c.b1 + v ≤ B.length
theorem y8 {l : List Bool} {i : Nat} {b : Bool} (h : l[i]? = some b) : (l.map D.bool)[(i : Int).toNat]? = some (.bool b) := by
  rw [b8, bR, h]; rfl
theorem lN {α β : Type} {f : α → β} {l : List α} {i : Nat} (h : i < l.length) : (i : Int) < ((l.map f).length : Int) := by rw [ah]; exact bj.mpr h
theorem fP {α β : Type} {f : α → β} {l : List α} {i : Nat} (h : ¬ i < l.length) : ¬ (i : Int) < ((l.map f).length : Int) := by rw [ah]; exact fun q => h (bj.mp q)
section
variable {A B : List Int} {gone come : List Bool} {f a b : V} {s : MO} {Q : FX} {e e' i j : Nat}
theorem chg1 (lg : gone.length = A.length) (q : ∀ i', i ≤ i' → Aln A B gone come A.length e' i' j → (∀ t, i ≤ t → t < i' → gone[t]? = some true) → gone[i']? ≠ some true → Q .next [.hd 0, f, .d (.int i'), .d (.int j), a, b] [jT A B 1 2, eX gone, eX come, s]) :
    ∀ (m : Nat) {i' : Nat}, A.length ≤ i' + m → i ≤ i' → Aln A B gone come A.length e' i' j → (∀ t, i ≤ t → t < i' → gone[t]? = some true) → cW gJ gH (m + 1) [.hd 0, f, .d (.int i'), .d (.int j), a, b] [jT A B 1 2, eX gone, eX come, s] Q := by
  intro m
  induction m with
  | zero => exact fun hm li al mk => af (.lenL rfl) (cn (fP (a7.mpr hm)) (aN rfl (q _ li al mk fun h => absurd (lg ▸ (aQ.mp h).1) (a7.mpr hm))))
  | succ m ih =>
    intro i' hm li al mk
    refine af (.lenL rfl) ?_
    by_cases c : i' < A.length
    · refine cy (lN c) ?_
      cases hb : gone[i']? with
      | none => exact absurd (fM.mp hb) (gn.mpr (lg ▸ c))
      | some x =>
        refine aM (.it rfl (av _) (y8 hb)) ?_
        induction x using Bool.casesOn with
        | false => exact aN rfl (aN rfl (q i' li al mk (by rw [hb]; nofun)))
        | true =>
          exact a6 rfl (a6 rfl (ih (i' := i' + 1) (by rw [bv]; exact hm) (bg li) (al.skip c hb) fun t h h' => (dg.mp h').elim (mk t h) fun e => e ▸ hb))
    · exact cn (fP c) (aN rfl (q i' li al mk fun h => c (lg ▸ (aQ.mp h).1)))
theorem chg2 (lc : come.length = B.length) (q : ∀ j', j ≤ j' → Aln A B gone come e B.length i j' → (∀ t, j ≤ t → t < j' → come[t]? = some true) → come[j']? ≠ some true → Q .next [.hd 0, f, .d (.int i), .d (.int j'), a, b] [jT A B 1 2, eX gone, eX come, s]) :
    ∀ (m : Nat) {j' : Nat}, B.length ≤ j' + m → j ≤ j' → Aln A B gone come e B.length i j' → (∀ t, j ≤ t → t < j' → come[t]? = some true) → cW gG gF (m + 1) [.hd 0, f, .d (.int i), .d (.int j'), a, b] [jT A B 1 2, eX gone, eX come, s] Q := by
  intro m
  induction m with
  | zero => exact fun hm li al mk => af (.lenL rfl) (cn (fP (a7.mpr hm)) (aN rfl (q _ li al mk fun h => absurd (lc ▸ (aQ.mp h).1) (a7.mpr hm))))
  | succ m ih =>
    intro i' hm li al mk
    refine af (.lenL rfl) ?_
    by_cases c : i' < B.length
    · refine cy (lN c) ?_
      cases hb : come[i']? with
      | none => exact absurd (fM.mp hb) (gn.mpr (lc ▸ c))
      | some x =>
        refine aM (.it rfl (av _) (y8 hb)) ?_
        induction x using Bool.casesOn with
        | false => exact aN rfl (aN rfl (q i' li al mk (by rw [hb]; nofun)))
        | true =>
          exact a6 rfl (a6 rfl (ih (j' := i' + 1) (by rw [bv]; exact hm) (bg li) (al.skip' c hb) fun t h h' => (dg.mp h').elim (mk t h) fun e => e ▸ hb))
    · exact cn (fP c) (aN rfl (q i' li al mk fun h => c (lc ▸ (aQ.mp h).1)))
end
section
variable {A B : List Int} {gone come : List Bool} {u v i j i' j' : Nat} {cs : List dA}
structure ChI (A B : List Int) (gone come : List Bool) (u v : Nat) (cs : List dA) (i j : Nat) : Prop where
  df : Dfs A B cs i j
  al : Aln A B gone come A.length B.length i j
  lo : sU cs i ∨ (gone[i]? ≠ some true ∧ come[j]? ≠ some true)
  uu : i < u ∨ j < u → i = j
  ci : CIn A B u v cs
  cl : cs.length ≤ i + j
theorem ChI.chg (C : ChI A B gone come u v cs i j) (R : Rgn A B [] gone come u v) (li : i ≤ i') (lj : j ≤ j') (ne : i < i' ∨ j < j') (al : Aln A B gone come A.length B.length i' j') (m1 : ∀ t, i ≤ t → t < i' → gone[t]? = some true) (m2 : ∀ t, j ≤ t → t < j' → come[t]? = some true) (h1 : gone[i']? ≠ some true) (h2 : come[j']? ≠ some true) : ChI A B gone come u v (cs ++ [⟨i, i', j, j'⟩]) i' j' := by
  have g1 : i < i' → u ≤ i := fun h => (R.mg i (m1 i (au _) h)).1
  have g2 : j < j' → u ≤ j := fun h => (R.mc j (m2 j (au _) h)).1
  have k1 : i < i' → i' + v ≤ A.length := fun h => by
    obtain ⟨t, rfl⟩ := eE h
    exact eU (i + t) v ▸ (R.mg (i + t) (m1 (i + t) (ai i t) (bw _))).2
  have k2 : j < j' → j' + v ≤ B.length := fun h => by
    obtain ⟨t, rfl⟩ := eE h
    exact eU (j + t) v ▸ (R.mc (j + t) (m2 (j + t) (ai j t) (bw _))).2
  have tl := al.tail (w := v) (fun k h => (R.mg k h).2) fun k h => (R.mc k h).2
  have lu : u ≤ i ∧ u ≤ j := by
    have uu := C.uu
    rcases ne with h | h
    · exact ⟨g1 h, a7.mp fun q => a7.mpr (g1 h) (uu (.inr q) ▸ q)⟩
    · exact ⟨a7.mp fun q => a7.mpr (g2 h) (uu (.inl q) ▸ q), g2 h⟩
  have rv : i' + v ≤ A.length ∧ j' + v ≤ B.length := by
    rcases tl with h | h
    · exact h
    · rcases ne with h' | h'
      · have := k1 h'; exact ⟨this, by clear lu k1 k2 g1 g2 m1 m2 h1 h2 al; exact aH (.i (.a .A .B) (.a .C .D) (.l (.a .C .F) .B (.p (.a .A .F) .D))) rf [_,_,_,_,_] [] h this⟩
      · have := k2 h'; exact ⟨by clear lu k1 k2 g1 g2 m1 m2 h1 h2 al; exact aH (.e (.a .A .B) (.a .C .D) (.l (.a .C .F) .B (.p (.a .A .F) .D))) rf [_,_,_,_,_] [] h this, this⟩
  refine ⟨C.df.chg ?_ li lj ne al.le.1 al.le.2, al, .inr ⟨h1, h2⟩, fun q => ?_, fun c hc => ?_, ?_⟩
  · exact C.lo.resolve_right fun h => ne.elim (fun q => h.1 (m1 i (au _) q)) fun q => h.2 (m2 j (au _) q)
  · exact (q.elim (a7.mpr (ab lu.1 li)) (a7.mpr (ab lu.2 lj))).elim
  · rcases bk.mp hc with z | z
    · exact C.ci c z
    · cases am.mp z; exact ⟨lu.1, rv.1, lu.2, rv.2⟩
  · rw [ac]
    exact ab (aj C.cl) (ne.elim (fun h => eU i j ▸ aA h lj) fun h => aA li h)
theorem ChI.step (C : ChI A B gone come u v cs i j) (lg : gone.length = A.length) (lc : come.length = B.length) (ne : i < A.length ∨ j < B.length) (h1 : gone[i]? ≠ some true) (h2 : come[j]? ≠ some true) : ChI A B gone come u v cs (i + 1) (j + 1) := by
  have al := C.al
  cases al with
  | nil => exact (ne.elim (bA _) (bA _)).elim
  | gone p => exact (h1 p).elim
  | come p => exact (h2 p).elim
  | mat a b _ _ r => exact ⟨C.df.step a b, r, .inl C.df.last_le, fun q => congrArg fI (C.uu (q.imp rG rG)), C.ci, ab C.cl (aA (bO i) (bO j))⟩
end
section
variable {W : Wd} {n : Nat} {A B : List Int} {gone come : List Bool} {u v : Nat} {Q : FX}
theorem Bw (hW : Wk W) (hsz : A.length + B.length ≤ 1000) (lg : gone.length = A.length) (lc : come.length = B.length) (R : Rgn A B [] gone come u v)
    (q : ∀ cs ρ, Dfs A B cs A.length B.length → CIn A B u v cs → cs.length ≤ 1000 → Q .next (.hd 0 :: .hd 3 :: ρ) [jT A B 1 2, eX gone, eX come, .list (cs.map xm)]) :
    ∀ (m : Nat) {cs : List dA} {i j : Nat} {e4 e5 : V}, A.length + B.length < i + j + m → ChI A B gone come u v cs i j → cW dE (cU (CallP W (n + 2))) m [.hd 0, .hd 3, .d (.int i), .d (.int j), e4, e5] [jT A B 1 2, eX gone, eX come, .list (cs.map xm)] Q := by
  intro m
  induction m with
  | zero => exact fun hm C => absurd hm (a7.mpr (ab (aW (Nat.add_zero _)) (aA C.al.le.1 C.al.le.2)))
  | succ m ih =>
    intro cs i j e4 e5 hm C
    have ⟨la, lb⟩ := C.al.le
    have body : i < A.length ∨ j < B.length → cU (CallP W (n + 2)) [.hd 0, .hd 3, .d (.int i), .d (.int j), e4, e5] [jT A B 1 2, eX gone, eX come, .list (cs.map xm)] (nB (cW dE (cU (CallP W (n + 2))) m) Q) := fun ne => by
      refine iH (A.length + 1) (chg1 lg (fun i' li al m1 h1 => ?_) A.length (aK _ _) (au _) C.al fun t h h' => absurd h' (a7.mpr h))
      refine iH (B.length + 1) (chg2 lc (fun j' lj al m2 h2 => ?_) B.length (aK _ _) (au _) al fun t h h' => absurd h' (a7.mpr h))
      have chg : i < i' ∨ j < j' → (gE (CallP W (n + 2))) [.hd 0, .hd 3, .d (.int i'), .d (.int j'), .d (.int i), .d (.int j)] [jT A B 1 2, eX gone, eX come, .list (cs.map xm)] (gZ aq (nB (cW dE (cU (CallP W (n + 2))) m) Q)) := fun ne' => by
        refine Ai hW (af (.append rfl (by rw [ah]; exact aL (ab C.cl (ab (aA la lb) hsz)) (by decide))) ?_)
        have := ih (cs := cs ++ [⟨i, i', j, j'⟩]) (e4 := .d (.int i)) (e5 := .d (.int j)) (ax hm (bv (i + j) m ▸ aC (ne'.elim (fun h => eU i j ▸ aA h lj) fun h => aA li h) m)) (C.chg R li lj ne' al m1 m2 h1 h2)
        rw [aB] at this
        exact this
      by_cases c1 : i < i'
      · exact cy (bj.mpr c1) (a6 rfl (chg (.inl c1)))
      refine cn (fun h => c1 (bj.mp h)) ?_
      by_cases c2 : j < j'
      · exact cy (bj.mpr c2) (a6 rfl (chg (.inr c2)))
      refine cn (fun h => c2 (bj.mp h)) (aN rfl ?_)
      clear chg
      cases bE li (a7.mp c1)
      cases bE lj (a7.mp c2)
      exact ih (e4 := .d (.int i)) (e5 := .d (.int j)) (ax hm (bv (i + j) m ▸ aC (eU i j ▸ br (bO j) (i + 1)) m)) (C.step lg lc ne h1 h2)
    by_cases c1 : i < A.length
    · exact af (.lenL rfl) (cy (lN c1) (a6 rfl (body (.inl c1))))
    refine af (.lenL rfl) (cn (fP c1) (af (.lenL rfl) ?_))
    by_cases c2 : j < B.length
    · exact cy (lN c2) (a6 rfl (body (.inr c2)))
    refine cn (fP c2) (aN rfl ?_)
    clear body
    cases bE la (a7.mp c1)
    cases bE lb (a7.mp c2)
    exact q cs _ C.df C.ci (ab C.cl hsz)
theorem x9 (hW : Wk W) {σ : List MO} {Q : VQ} {k k1 k2 : Nat} (S : ShAt σ k A B k1 k2 gone come) (hsz : A.length + B.length ≤ 1000) (lg : gone.length = A.length) (lc : come.length = B.length) (al : Aln A B gone come A.length B.length 0 0) (R : Rgn A B [] gone come u v)
    (q : ∀ cs, Dfs A B cs A.length B.length → CIn A B u v cs → cs.length ≤ 1000 → Q (.d (.lst (cs.map xm))) σ) : CallP W (n + 3) 229 [.hd k] σ Q := by
  refine fnS S hW (ws := [.hd 0]) rfl rfl rfl ?_
  refine af (.hd rfl) (iH (A.length + B.length + 1) ?_)
  refine Bw hW hsz lg lc R (fun cs ρ df ci cl => ?_) _ (cs := []) (i := 0) (j := 0) (ax (bw _) (aK _ _)) ⟨.nil, al, .inl fun c h => bm h, fun _ => rfl, nofun, au _⟩
  show Q _ (((σ.set k (jT A B k1 k2)).set k1 (eX gone)).set k2 (eX come))
  rw [S.same]
  exact q cs df ci cl
end
structure LDiff (la lb : List Ln) (cs : List dA) : Prop where
  dfs : Dfs la lb cs la.length lb.length
  reg : ∃ u v : Nat, u + v ≤ la.length ∧ u + v ≤ lb.length ∧ (∀ c, c ≤ la.length → c ≤ lb.length → (∀ i, i < c → la[i]? = lb[i]?) → c ≤ u) ∧
    (∀ c, u + c ≤ la.length → u + c ≤ lb.length → (∀ i, i < c → la[la.length - 1 - i]? = lb[lb.length - 1 - i]?) → c ≤ v) ∧ ∀ ch ∈ cs, u ≤ ch.a0 ∧ ch.a1 + v ≤ la.length ∧ u ≤ ch.b0 ∧ ch.b1 + v ≤ lb.length
section
variable {m : Ln → Option Int} {c : Nat} {la lb : List Ln} {A B : List Int} {cs : List dA}
theorem rS (h : All2 (fun x i => m x = some i) la A) : ∀ {i : Nat} {z : Int}, A[i]? = some z → ∃ x, la[i]? = some x ∧ m x = some z := by
  induction h with
  | nil => exact fun h => bm h
  | cons a b ih =>
    intro i z h
    induction i using Nat.casesOn with
    | zero => cases h; exact ⟨_, rfl, a⟩
    | succ i => exact ih h
theorem Dfs.lines (tab : NumOk m c) (ha : All2 (fun x i => m x = some i) la A) (hb : All2 (fun x i => m x = some i) lb B) {i j : Nat} (h : Dfs A B cs i j) : Dfs la lb cs i j := by
  induction h with
  | nil => exact .nil
  | step _ h1 h2 ih =>
    obtain ⟨x, e1, e2⟩ := rS ha h1
    obtain ⟨y, e3, e4⟩ := rS hb h2
    cases tab.inj _ _ _ e2 e4
    exact .step ih e1 e3
  | chg _ lo h1 h2 h3 h4 h5 ih => exact .chg ih lo h1 h2 h3 (ha.length.symm ▸ h4) (hb.length.symm ▸ h5)
theorem num_eq (ha : All2 (fun x i => m x = some i) la A) (hb : All2 (fun x i => m x = some i) lb B) {i j : Nat} (hi : i < A.length) (hj : j < B.length) (h : la[i]? = lb[j]?) : gI A i = gI B j := by
  obtain ⟨x, e1, e2⟩ := rS ha (qo hi)
  obtain ⟨y, e3, e4⟩ := rS hb (qo hj)
  rw [e1, e3] at h
  cases h
  exact cm.inj (e2.symm.trans e4)
theorem LDiff.of {u v : Nat} (tab : NumOk m c) (ha : All2 (fun x i => m x = some i) la A) (hb : All2 (fun x i => m x = some i) lb B) (df : Dfs A B cs A.length B.length) (tr : Trim A B 0 A.length 0 B.length u v) (ci : CIn A B u v cs) : LDiff la lb cs := by
  have ne1 := fun i j => num_eq ha hb (i := i) (j := j)
  have df := df.lines tab ha hb
  unfold CIn at ci
  rw [ha.length, hb.length] at df ci tr ne1
  clear ha hb
  have mx := tr.max
  have mx' := tr.max'
  have ua := tr.ua
  have ub := tr.ub
  clear tr tab
  refine ⟨df, u, v, by exact aH (.L (.a (.c .A) (.c .B)) (.s (.c .C) .O) (.p (.a .A .B) .C)) rf [_,_,_] [] ua, by exact aH (.L (.a (.c .A) (.c .B)) (.s (.c .C) .O) (.p (.a .A .B) .C)) rf [_,_,_] [] ub, fun c h1 h2 h => a7.mp fun z => ?_, fun c h1 h2 h => a7.mp fun z => ?_, ci⟩
  · have e := ne1 u u (ax z h1) (ax z h2) (h _ z)
    rw [fN] at mx
    rcases mx with q | q | q
    · exact aH (.t .A .B (.l .B .C (.w (.c .C) (.c .A) .f))) rf [_,_,_] [] z h1 q
    · exact aH (.t .A .B (.l .B .C (.w (.c .C) (.c .A) .f))) rf [_,_,_] [] z h2 q
    · exact q e
  · have e := ne1 (la.length - 1 - v) (lb.length - 1 - v) (by exact aH (.e (.a .A .B) .C (.e (.a .C .I) .D (.q .A .D))) rf [_,_,_,_] [] (aJ (aH (.t .A .B (.l (.a .C .B) .D (.i .D (.a .F .I) (.p .A .F)))) rf [_,_,_,_,_] [] z h1 (aJ (aH (.t .A .B (.l (.a .C .B) .D (.p .I .D))) rf [_,_,_,_] [] z h1)))) (aJ (aH (.t .A .B (.l (.a .C .B) .D (.p .I .D))) rf [_,_,_,_] [] z h1))) (by exact aH (.e (.a .A .B) .C (.e (.a .C .I) .D (.q .A .D))) rf [_,_,_,_] [] (aJ (aH (.t .A .B (.l (.a .C .B) .D (.i .D (.a .F .I) (.p .A .F)))) rf [_,_,_,_,_] [] z h2 (aJ (aH (.t .A .B (.l (.a .C .B) .D (.p .I .D))) rf [_,_,_,_] [] z h2)))) (aJ (aH (.t .A .B (.l (.a .C .B) .D (.p .I .D))) rf [_,_,_,_] [] z h2))) (h _ z)
    rw [show ((la.length - 1 - v : Nat) : Int) = la.length - v - 1 by exact aH (.e (.a .A .B) .C (.e (.a .C .I) .D (.O (.c .A) (.s (.s (.c .D) (.c .B)) .I)))) rf [_,_,_,_] [] (aJ (aH (.t .A .B (.l (.a .C .B) .D (.i .D (.a .F .I) (.p .A .F)))) rf [_,_,_,_,_] [] z h1 (aJ (aH (.t .A .B (.l (.a .C .B) .D (.p .I .D))) rf [_,_,_,_] [] z h1)))) (aJ (aH (.t .A .B (.l (.a .C .B) .D (.p .I .D))) rf [_,_,_,_] [] z h1)), show ((lb.length - 1 - v : Nat) : Int) = lb.length - v - 1 by exact aH (.e (.a .A .B) .C (.e (.a .C .I) .D (.O (.c .A) (.s (.s (.c .D) (.c .B)) .I)))) rf [_,_,_,_] [] (aJ (aH (.t .A .B (.l (.a .C .B) .D (.i .D (.a .F .I) (.p .A .F)))) rf [_,_,_,_,_] [] z h2 (aJ (aH (.t .A .B (.l (.a .C .B) .D (.p .I .D))) rf [_,_,_,_] [] z h2)))) (aJ (aH (.t .A .B (.l (.a .C .B) .D (.p .I .D))) rf [_,_,_,_] [] z h2))] at e
    rcases mx' with q | q | q
    · exact aH (.t .A .B (.l (.a .C .B) .D (.w (.s (.c .D) (.c .A)) (.a .O (.c .C)) .f))) rf [_,_,_,_] [] z h1 q
    · exact aH (.t .A .B (.l (.a .C .B) .D (.w (.s (.c .D) (.c .A)) (.a .O (.c .C)) .f))) rf [_,_,_,_] [] z h2 q
    · exact q e
end
section
variable {W : Wd} {n : Nat} {A B : List Int} {σ : List MO} {Q : VQ} {gone come : List Bool}
theorem Ao (hW : Wk W) {k k1 k2 : Nat} (S : ShAt σ k A B k1 k2 gone come) (q : Q (.d (i0 0 A.length 0 B.length)) σ) : CallP W (n + 1) 208 [.hd k] σ Q := by
  refine fnS S hW (ws := [.hd 0]) rfl rfl rfl ?_
  refine af (.lenL rfl) (af (.lenL rfl) ?_)
  rw [ah, ah]
  show Q _ (((σ.set k (jT A B k1 k2)).set k1 (eX gone)).set k2 (eX come))
  rw [S.same]; exact q
theorem AR (hW : Wk W) {la lb : List Ln} (hsz : la.length + lb.length ≤ 1000) (q : ∀ cs, LDiff la lb cs → cs.length ≤ 1000 → Q (.d (.lst (cs.map xm))) σ) : CallP W (n + 5) 306 [.d (c5 la), .d (c5 lb)] σ Q := by
  refine nD hW (ws := [.d (c5 la), .d (c5 lb)]) rfl rfl rfl ?_
  refine ui hW (aL hsz (by decide)) fun A B m c tab ha hb => ?_
  have hsz' : A.length + B.length ≤ 1000 := ha.length.symm ▸ hb.length.symm ▸ hsz
  rw [← ha.length, ← hb.length]
  refine Ao hW (k := 0) (k1 := 4) (k2 := 5) (A := A) (B := B) ⟨rfl, rfl, rfl, by decide⟩ ?_
  refine sO hW (k := 0) (k1 := 4) (k2 := 5) (A := A) (B := B) ⟨rfl, rfl, rfl, by decide⟩ hsz' fun gone come u v lg lc al R => ?_
  refine x9 hW (k := 0) (k1 := 4) (k2 := 5) (A := A) (B := B) (gone := gone) (come := come) ⟨rfl, rfl, rfl, by decide⟩ hsz' lg lc al R fun cs df ci cl => ?_
  exact q cs (LDiff.of tab ha hb df R.tr ci) cl
theorem BC (hW : Wk W) {la lb : List Ln} (hsz : la.length + lb.length ≤ 1000) (q : ∀ cs, LDiff la lb cs → cs.length ≤ 1000 → Q (.d (.lst (cs.map xm))) σ) : CallP W (n + 6) 328 [.d (.str "myers"), .d (c5 la), .d (c5 lb)] σ Q := by
  refine nD hW (ws := [.d (.str "myers"), .d (c5 la), .d (c5 lb)]) rfl rfl rfl ?_
  exact aw (.eq (.atom (.str _ _))) (a6 (by decide) (AR hW hsz q))
end
theorem vH {m : Nat} : ∀ {a b : List Ln}, a.length = b.length → DeqL m (a.map D.bytes) (b.map D.bytes) (decide (a = b))
  | [], [], _ => .nil
  | x :: a, y :: b, h => by
    have ih := vH (m := m) (fI.inj h)
    have e : decide (x :: a = y :: b) = ((x == y) && decide (a = b)) := by
      by_cases h : x = y
      · subst h
        rw [beq_self_eq_true, Bool.true_and]
        exact decide_eq_decide.mpr ⟨fun e => (eY.inj e).2, fun e => e ▸ rfl⟩
      · rw [beq_false_of_ne h, uT]
        exact decide_eq_false fun e => h (eY.inj e).1
    exact e ▸ .atom (.bytes x y) ih
section
variable {W : Wd} {n : Nat} {σ : List MO} {Q : VQ}
theorem eq_lns {a b : List Ln} : EqR σ (.d (c5 a)) (.d (c5 b)) (decide (a = b)) := by
  by_cases h : a.length = b.length
  · exact .lst rfl rfl (vH h)
  · rw [decide_eq_false fun e => h (congrArg _ e)]
    exact .lens rfl rfl (by rw [ah, ah]; exact h)
theorem dR {a : V} {l : List D} (h : cu σ a = some l) : EqR σ a (.d (.lst [])) (decide (l = [])) := by
  induction l using List.casesOn with
  | nil => exact .lst h rfl .nil
  | cons x l => exact .lens h rfl nofun
theorem fe {a b : V} {p : Prop} {i : Decidable p} (h : EqR σ a b (decide p)) : CmpR σ .NotEq a b (decide ¬ p) := decide_not (p := p) ▸ .ne h
theorem neY {a b : V} {p : Prop} {i : Decidable p} (h : EqR σ a b (@decide p i)) (n : ¬ p) : CmpR σ .NotEq a b true := by rw [decide_eq_false n] at h; exact .ne h
theorem neN {a b : V} {p : Prop} {i : Decidable p} (h : EqR σ a b (@decide p i)) (y : p) : CmpR σ .NotEq a b false := by rw [decide_eq_true y] at h; exact .ne h
theorem y9 {α : Type} [BEq α] [LawfulBEq α] [DecidableEq α] {a b : α} : (a == b) = decide (a = b) := by
  by_cases h : a = b
  · rw [beq_iff_eq.mpr h, decide_eq_true h]
  · rw [beq_false_of_ne h, decide_eq_false h]
theorem kR {a b : Ln} : Atom (.bytes a) (.bytes b) (decide (a = b)) := y9 (a := a) ▸ .bytes a b
theorem uO {a b : String} : Atom (.str a) (.str b) (decide (a = b)) := y9 (a := a) ▸ .str a b
theorem map_nil' {α β : Type} {f : α → β} {l : List α} : l.map f = [] ↔ l = [] := List.map_eq_nil_iff
theorem xD {α : Type} {a : List α} {b : α} : a9 (a ++ [b]) none (some (-1)) = a := by
  unfold a9
  have e : kms_hi (some (-1)) (a ++ [b]).length = a.length := by
    rw [ac]; exact dJ (n := a.length) (m := 1)
  rw [e]
  show ((a ++ [b]).drop 0).take (a.length - 0) = a
  rw [List.drop_zero, yq]; exact nJ
noncomputable def lD (o t : Bool) (mine others : List Ln) : String := if t = false then "ours" else if o = false then "theirs" else if mine = others then "both" else "conflict"
theorem tU (hW : Wk W) {o t : Bool} {a b : List Ln} (q : Q (.d (.str (lD o t a b))) σ) : CallP W (n + 1) 412 [.d (.bool o), .d (.bool t), .d (c5 a), .d (c5 b)] σ Q := by
  refine nD hW rfl rfl rfl ?_
  induction t using Bool.casesOn with
  | false => exact a6 rfl q
  | true =>
    induction o using Bool.casesOn with
    | false => exact aN rfl (a6 rfl q)
    | true =>
      refine aN rfl (aN rfl (aw (.eq eq_lns) ?_))
      by_cases h : a = b
      · rw [show lD true true a b = "both" from if_pos h] at q; exact cy h q
      · rw [show lD true true a b = "conflict" from if_neg h] at q; exact cn h q
noncomputable def qG (i : Nat) : UInt8 := match i with | 0 => 60 | 1 => 124 | 2 => 61 | _ => 62
noncomputable def cw (i m : Nat) (name : Ln) : Ln := ay m (qG i) ++ name ++ [10]
theorem jq {i : Nat} (h : i < 4) : a9 ([60, 124, 61, 62] : Ln) (some (i : Int)) (some ((i : Int) + 1)) = [qG i] := by
  rcases i with _ | _ | _ | _ | i
  · rfl
  · rfl
  · rfl
  · rfl
  · exact absurd h (a7.mpr (aK 4 i))
theorem mulS {m i : Nat} (hm : m ≤ 1000) : BinR σ .Mult (.d (.bytes [qG i])) (.d (.int m)) (.d (.bytes (ay m (qG i)))) σ := by
  have := BinR.mulB (σ := σ) (x := [qG i]) (k := m) nofun (aK 1 15) (by exact aH (.P (.g (.n 1048576)) (.c .A)) rf [_] []) (by exact aH (.l .A (.n 1000) (.P (.c .A) (.n 1048576))) rf [_] [] hm)
  rw [b8, p8] at this; exact this
theorem iy (hW : Wk W) {i m : Nat} {name : Ln} (hi : i < 4) (hm : m ≤ 1000) (hn : name.length ≤ 1000) (q : Q (.d (.bytes (cw i m name))) σ) : CallP W (n + 1) 561 [.d (.int i), .d (.int m), .d (.bytes name)] σ Q := by
  refine nD hW rfl rfl rfl ?_
  refine bH (.bytes _) ?_
  rw [jq hi]
  refine af (mulS hm) (af (.addB ?_) (af (.addB ?_) q))
  · rw [be]; exact aH (.l .A (.n 1000) (.l .B (.n 1000) (.p (.a .A .B) (.n 16777216)))) rf [_,_] [] hm hn
  · rw [ac, be]; show m + name.length + 1 ≤ _; exact aH (.l .A (.n 1000) (.l .B (.n 1000) (.p (.a (.a .A .B) .I) (.n 16777216)))) rf [_,_] [] hm hn
noncomputable def eF (l : Ln) : Bool := BM.endsW l.toArray [10].toArray
noncomputable def eRF (l : Ln) : Bool := BM.endsW l.toArray [13, 10].toArray
noncomputable def cX (l : List Ln) (e : Ln) : List Ln :=
  match l.getLast? with
  | none => l
  | some x => if eF x = true then l else l.dropLast ++ [x ++ e]
theorem d9 (hW : Wk W) {l : List Ln} {e : Ln} (hl : l.length ≤ 2000000) (he : e.length ≤ 2) (hx : ∀ x ∈ l, x.length ≤ 1000000) (q : Q (.d (c5 (cX l e))) σ) : CallP W (n + 1) 465 [.d (c5 l), .d (.bytes e)] σ Q := by
  refine nD hW (ws := [.d (c5 l), .d (.bytes e)]) rfl rfl rfl ?_
  rcases fb l with rfl | ⟨l', x, rfl⟩
  · exact af (.d rfl) (aw (.eq (dR rfl)) (a6 rfl (a6 rfl q)))
  · rw [cF] at hl hx q ⊢
    rw [show cX (l' ++ [x]) e = if eF x = true then l' ++ [x] else l' ++ [x ++ e] by unfold cX; rw [iO]; dsimp only; rw [nR]] at q
    have hm : cu [] (.d (c5 (l' ++ [x]))) = some (l'.map D.bytes ++ [.bytes x]) := congrArg some aB
    refine af (.d rfl) (aw (.eq (dR hm)) (cn (dG _ nofun) ?_))
    refine aM (.last hm) (af (.endswith _ _) ?_)
    cases hb : eF x with
    | true => rw [hb, if_pos rfl] at q; exact a6 hb (a6 rfl q)
    | false =>
      rw [hb, if_neg nofun] at q
      refine aN hb (aN rfl (bH (.lst hm) ?_))
      rw [xD]
      rw [ac] at hl
      refine aM (.last hm) (af (.addB ?_) (af (.d rfl) (af (.addL rfl rfl ?_) ?_)))
      · have := hx x (aR _ (.head _)); exact aH (.l .A (.n 2) (.l .B (.n 1000000) (.p (.a .B .A) (.n 16777216)))) rf [_,_] [] he this
      · rw [ah]; exact ab hl (by decide)
      · unfold c5 at q; rw [aB] at q; exact q
end
noncomputable def qV (u : String) (a b c : List Ln) : D := .inst 359 [.str u, c5 a, c5 b, c5 c]
noncomputable def dT (a b : List Ln) : Ln := if (a ++ b).filter eF ≠ [] ∧ ((a ++ b).filter eF).filter (fun l => !eRF l) = [] then [13, 10] else [10]
noncomputable def qK (i m : Nat) (name : String) (e : Ln) : Ln := ay m (qG i) ++ (if name = "" then [] else 32 :: name.toList.map fun c => c.toNat.toUInt8) ++ e
noncomputable def uY (x : UInt8) : Option Nat := if x = 60 then some 0 else if x = 124 then some 1 else if x = 61 then some 2 else if x = 62 then some 3 else none
noncomputable def bD (l : Ln) (m : Nat) : Option Nat :=
  match l with
  | [] => none
  | x :: _ => (uY x).bind fun i => if l.take m ≠ ay m (qG i) then none else if l.drop m = [] ∨ l.drop m = [10] ∨ l.drop m = [13, 10] then some i else if i ≠ 2 ∧ (l.drop m).take 1 = [32] then some i else none
theorem ez {α : Type} (l : List α) (k : Nat) : a9 l none (some (k : Int)) = l.take k := by
  unfold a9
  rw [qp]
  show (l.drop 0).take (min k l.length - 0) = _
  rw [List.drop_zero, yq, List.take_eq_take_min (i := k)]
theorem kj {α : Type} (l : List α) (k : Nat) : a9 l (some (k : Int)) none = l.drop k := by
  unfold a9
  rw [lW]
  show (l.drop (min k l.length)).take (l.length - min k l.length) = _
  rw [xn (aW ik)]
  rcases l7 k l.length with h | h
  · rw [dt h]
  · rw [Nat.min_eq_right h, il, lC h]
theorem yH {x : UInt8} {i : Nat} (h : uY x = some i) : i < 4 := by
  unfold uY at h
  by_cases h1 : x = 60
  · rw [if_pos h1] at h; cases h; decide
  by_cases h2 : x = 124
  · rw [if_neg h1, if_pos h2] at h; cases h; decide
  by_cases h3 : x = 61
  · rw [if_neg h1, if_neg h2, if_pos h3] at h; cases h; decide
  by_cases h4 : x = 62
  · rw [if_neg h1, if_neg h2, if_neg h3, if_pos h4] at h; cases h; decide
  rw [if_neg h1, if_neg h2, if_neg h3, if_neg h4] at h; cases h
theorem zS (x : UInt8) : BM.findW [60, 124, 61, 62].toArray [x].toArray none = match uY x with | some i => (i : Int) | none => -1 := by
  have e : BM.findW [60, 124, 61, 62].toArray [x].toArray none = BM.findW ([] ++ [60, 124, 61, 62] : Ln).toArray [x].toArray (some (([] : Ln).length : Int)) := rfl
  have f : ∀ y : UInt8, ¬ x = y → (y == x) = false := fun y h => beq_false_of_ne (Ne.symm h)
  rw [e, s9]
  unfold uY
  by_cases h1 : x = 60
  · subst h1; rfl
  by_cases h2 : x = 124
  · subst h2; rfl
  by_cases h3 : x = 61
  · subst h3; rfl
  by_cases h4 : x = 62
  · subst h4; rfl
  rw [eO, f 60 h1, eO, f 124 h2, eO, f 61 h3, eO, f 62 h4, if_neg h1, if_neg h2, if_neg h3, if_neg h4]; rfl
noncomputable def numD (o : Option Nat) : D := match o with | some i => .int i | none => .none
section
variable {W : Wd} {n : Nat} {σ : List MO} {Q : VQ}
theorem kK (hW : Wk W) {u : String} {a b c : List Ln} (hl : b.length + c.length ≤ 2000000) (q : Q (.d (.bytes (dT b c))) σ) : CallP W (n + 1) 458 [.d (qV u a b c)] σ Q := by
  unfold dT at q
  refine nD hW (ws := [.d (qV u a b c)]) rfl rfl rfl ?_
  have hz : (b.map D.bytes).length + (c.map D.bytes).length ≤ 16777216 := by rw [ah, ah]; exact ab hl (by decide)
  refine af (.addL rfl rfl hz) ?_
  rw [← ac, ← aB] at hz
  rw [← aB]
  refine i6 (d := .lst _) (ds := _) rfl hz (jX D.bytes eF (b ++ c) (fun x _ nx acc h => ?_) ?_)
  · refine af (.endswith _ _) ?_
    cases hb : eF x with
    | true => exact a6 hb (h true hb)
    | false => exact aN hb (h false hb)
  rw [ah] at hz
  refine i6 (d := .lst _) (ds := _) rfl ?_ (jX D.bytes (fun l => !eRF l) ((b ++ c).filter eF) (fun x _ nx acc h => ?_) ?_)
  · show (zp D.bytes _).length ≤ _
    rw [ah]; exact ab (List.length_filter_le _ _) hz
  · refine af (.endswith _ _) ?_
    cases hb : !eRF x with
    | true => exact a6 hb (h true hb)
    | false => exact aN hb (h false hb)
  refine af (.d rfl) (aw (fe (dR rfl)) ?_)
  by_cases c1 : (b ++ c).filter eF = []
  · rw [if_neg fun h => h.1 c1] at q
    exact cn (fun h => h (map_nil'.mpr c1)) (aN rfl q)
  · refine cy (fun h => c1 (map_nil'.mp h)) (af (.d rfl) (aw (.eq (dR rfl)) ?_))
    by_cases c2 : ((b ++ c).filter eF).filter (fun l => !eRF l) = []
    · rw [if_pos ⟨c1, c2⟩] at q
      exact cy (map_nil'.mpr c2) (a6 rfl q)
    · rw [if_neg fun h => c2 h.2] at q
      exact cn (fun h => c2 (map_nil'.mp h)) (aN rfl q)
theorem dB (hW : Wk W) {i m : Nat} {name : String} {e : Ln} (hi : i < 4) (hm : m ≤ 1000) (hn : name.length ≤ 1000) (hc : ∀ c ∈ name.toList, c.toNat < 256) (he : e.length ≤ 1000) (q : Q (.d (.bytes (qK i m name e))) σ) : CallP W (n + 2) 472 [.d (.int i), .d (.int m), .d (.str name), .d (.bytes e)] σ Q := by
  unfold qK at q
  refine nD hW rfl rfl rfl ?_
  refine bH (.bytes _) ?_
  rw [jq hi]
  refine af (mulS hm) (aw (.ne (.atom (.str _ _))) ?_)
  by_cases h : name = ""
  · subst h
    rw [if_pos rfl, ar] at q
    refine aN rfl (af (.addB ?_) q)
    rw [be]; exact ab (aA hm he) (by decide)
  · rw [if_neg h] at q
    refine a6 (by rw [beq_false_of_ne h]; rfl) (af (.addB ?_) (vm hW hn hc (af (.addB ?_) (af (.addB ?_) ?_))))
    · rw [be]; exact ab (aj hm) (by decide)
    · rw [ac, be, ah, String.length_toList]; exact ab (aA (aj hm) hn) (by decide)
    · rw [ac, ac, be, ah, String.length_toList]; exact ab (aA (aA (aj hm) hn) he) (by decide)
    · rw [ag (ay m _)]; exact q
theorem cr (hW : Wk W) {l : Ln} {m : Nat} (hm : m ≤ 1000) (q : Q (.d (numD (bD l m))) σ) : CallP W (n + 1) 502 [.d (.bytes l), .d (.int m)] σ Q := by
  unfold bD at q
  refine nD hW rfl rfl rfl ?_
  refine aw (.ne (.atom (.bytes _ _))) ?_
  induction l using List.casesOn with
  | nil => exact aN rfl (cy (by decide) (a6 rfl q))
  | cons x r =>
    refine a6 rfl (bH (.bytes _) (af (.find2 _ _) ?_))
    rw [show a9 (x :: r) none (some 1) = [x] from ez (x :: r) 1, zS]
    dsimp only at q
    cases hs : uY x with
    | none =>
      rw [hs] at q
      exact cy (show (-1 : Int) < 0 by decide) (a6 rfl q)
    | some i =>
      have hi := yH hs
      rw [hs, qR] at q
      refine cn (bh.mpr (av i)) (bH (.bytes _) (bH (.bytes _) ?_))
      rw [jq hi, ez]
      refine af (mulS hm) (aw (fe (.atom kR)) ?_)
      by_cases c1 : (x :: r).take m = ay m (qG i)
      · rw [if_neg fun h => h c1] at q
        refine cn (fun h => h c1) (aN rfl (bH (.bytes _) ?_))
        rw [kj]
        generalize (x :: r).drop m = rest at q ⊢
        refine aw (.mem (.bs rest [[], [10], [13, 10]])) ?_
        by_cases c2 : rest = [] ∨ rest = [10] ∨ rest = [13, 10]
        · rw [if_pos c2] at q
          refine a6 ?_ q
          rcases c2 with h | h | h <;> rw [h] <;> rfl
        · rw [if_neg c2] at q
          rw [not_or, not_or] at c2
          have f : ∀ y : Ln, ¬ rest = y → (y == rest) = false := fun y h => beq_false_of_ne (Ne.symm h)
          refine aN ?_ (aw (fe (.atom (.int _ _))) ?_)
          · rw [eZ, eZ, eZ, f _ c2.1, f _ c2.2.1, f _ c2.2.2]; rfl
          by_cases c3 : i = 2
          · rw [if_neg fun h => h.1 c3] at q
            exact cn (fun h => h (congrArg _ c3)) (aN rfl q)
          · refine cy (fun h => c3 (ly.inj h)) (bH (.bytes _) (aw (.eq (.atom kR)) ?_))
            rw [show a9 rest none (some 1) = rest.take 1 from ez rest 1]
            by_cases c4 : rest.take 1 = [32]
            · rw [if_pos ⟨c3, c4⟩] at q; exact cy c4 (a6 rfl q)
            · rw [if_neg fun h => c4 h.2] at q; exact cn c4 (aN rfl q)
      · rw [if_pos c1] at q
        exact cy c1 (a6 rfl q)
end
noncomputable def p7 (b : Ln) (m : Nat) : Bool := decide ((bU b).filter (fun l => (bD l m).isSome) = [])
noncomputable def bX (a b : List Ln) : Ln × Ln := if dm (cX a [10]).flatten (cX b [10]).flatten = true then ((cX a [10]).flatten, (cX b [10]).flatten) else ((cX b [10]).flatten, (cX a [10]).flatten)
inductive Rd (m : Nat) (o : Option (List Ln × List Ln × List Ln × List Ln)) : List Ln → Nat → List Ln → List Ln → List Ln → Prop
  | nil {k p0 p1 p2} (e : o = none) : Rd m o [] k p0 p1 p2
  | put0 {l r p0 p1 p2} (h : bD l m = none) (i : Rd m o r 0 (p0 ++ [l]) p1 p2) : Rd m o (l :: r) 0 p0 p1 p2
  | put1 {l r p0 p1 p2} (h : bD l m = none) (i : Rd m o r 1 p0 (p1 ++ [l]) p2) : Rd m o (l :: r) 1 p0 p1 p2
  | put2 {l r p0 p1 p2} (h : bD l m = none) (i : Rd m o r 2 p0 p1 (p2 ++ [l])) : Rd m o (l :: r) 2 p0 p1 p2
  | next {l r k t p0 p1 p2} (h : bD l m = some t) (a : k < t) (b : t < 3) (i : Rd m o r t p0 p1 p2) : Rd m o (l :: r) k p0 p1 p2
  | done {l r p0 p1 p2} (h : bD l m = some 3) (e : o = some (p0, p1, p2, r)) : Rd m o (l :: r) 2 p0 p1 p2
  | stop {l r k t p0 p1 p2} (h : bD l m = some t) (a : ¬ (t = 3 ∧ k = 2)) (b : ¬ (k < t ∧ t < 3)) (e : o = none) : Rd m o (l :: r) k p0 p1 p2
noncomputable def rdD (tot : Nat) (o : Option (List Ln × List Ln × List Ln × List Ln)) : D := match o with
  | none => .none
  | some (p0, p1, p2, r) => .tup [qV "conflict" p1 p0 p2, .int ((tot : Int) - r.length)]
theorem xP {pre r : List Ln} {l : Ln} : ((pre ++ l :: r).map D.bytes)[((pre.length : Nat) : Int).toNat]? = some (.bytes l) := by
  rw [b8, bR, bp (au _), gT]; rfl
theorem xO {pre r : List Ln} {l : Ln} : (pre.length : Int) < (((pre ++ l :: r).map D.bytes).length : Int) := lN (by rw [ac]; exact co (cK _))
section
variable {W : Wd} {n : Nat} {σ : List MO} {Q : VQ}
theorem lK (hW : Wk W) {b : Ln} {m : Nat} (hb : b.length ≤ 1000000) (hm : m ≤ 1000) (q : Q (.d (.bool (p7 b m))) σ) : CallP W (n + 2) 508 [.d (.bytes b), .d (.int m)] σ Q := by
  unfold p7 at q
  refine nD hW rfl rfl rfl ?_
  refine g9 hW hb ?_
  refine i6 (d := c5 _) (ds := _) rfl ?_ (jX D.bytes (fun l => (bD l m).isSome) _ (fun x _ nx acc h => ?_) ?_)
  · rw [ah]; exact ab (lO b) (ab hb (by decide))
  · refine cr hW hm ?_
    cases hs : bD x m with
    | none => exact aw .ntN (aN rfl (h false (congrArg oH hs)))
    | some i => exact aw (.ntO (.int _)) (a6 rfl (h true (congrArg oH hs)))
  · refine af (.d rfl) (aw (.eq (dR rfl)) ?_)
    rw [← decide_eq_decide.mpr map_nil'] at q
    exact q
theorem pe (hW : Wk W) {u : String} {a b c : List Ln} (hb : b.length ≤ 2000000) (hc : c.length ≤ 2000000) (hbx : ∀ x ∈ b, x.length ≤ 1000000) (hcx : ∀ x ∈ c, x.length ≤ 1000000) (hbf : (cX b [10]).flatten.length ≤ 16777216) (hcf : (cX c [10]).flatten.length ≤ 16777216)
    (q : Q (.d (.tup [.bytes (bX b c).1, .bytes (bX b c).2])) σ) : CallP W (n + 2) 530 [.d (qV u a b c)] σ Q := by
  unfold bX at q
  refine nD hW (ws := [.d (qV u a b c)]) rfl rfl rfl ?_
  refine d9 hW (l := b) hb (by decide) hbx (af (.joinB rfl hbf) ?_)
  refine d9 hW (l := c) hc (by decide) hcx (af (.joinB rfl hcf) ?_)
  refine aw (.leB _ _) ?_
  cases h : dm (cX b [10]).flatten (cX c [10]).flatten with
  | true => rw [h, if_pos rfl] at q; exact a6 rfl q
  | false => rw [h, if_neg nofun] at q; exact aN rfl q
theorem at_loop (hW : Wk W) {m : Nat} {v : V} {ls : List Ln} {Q : FX} {o : Option (List Ln × List Ln × List Ln × List Ln)} (hm : m ≤ 1000) (hl : ls.length ≤ 100000) (q1 : o = none → ∀ ρ τ, Q .next ρ τ ∧ Q (.ret .none) ρ τ) (q2 : ∀ x y z r, o = some (x, y, z, r) → ∀ ρ τ, Q (.ret (.tup [qV "conflict" y x z, .int ((ls.length : Int) - r.length)])) ρ τ)
    {rest : List Ln} {k : Nat} {p0 p1 p2 : List Ln} (h : Rd m o rest k p0 p1 p2) : ∀ {pre : List Ln} {e : V}, pre ++ rest = ls → p0.length + p1.length + p2.length ≤ pre.length →
    cW iE (iD (CallP W (n + 2))) (rest.length + 1) [.d (c5 ls), v, .d (.int m), .hd 3, .d (.int pre.length), .d (.int k), e] [.list (p0.map .bytes), .list (p1.map .bytes), .list (p2.map .bytes), .hls [0, 1, 2]] Q := by
  have z0 : ∀ {pre rest x : List Ln} {c : Nat}, pre ++ rest = ls → c ≤ pre.length → x.length ≤ c → (x.map D.bytes).length < 16777216 := fun hp hs h => by
    rw [ah]; exact aL (ab h (ab hs (ab (by rw [← hp, ac]; exact ai _ _) hl))) (by decide)
  have nx : ∀ {pre : List Ln} {l r}, pre ++ l :: r = ls → (pre ++ [l]) ++ r = ls := fun hp => (ag _ _ _).trans hp
  have ln : ∀ {pre : List Ln} {l : Ln}, (pre ++ [l]).length = pre.length + 1 := ac
  have lt : ∀ {pre : List Ln} {l r}, pre ++ l :: r = ls → (pre.length : Int) < ((ls.map D.bytes).length : Int) := fun hp => hp ▸ xO
  have at_ : ∀ {pre : List Ln} {l r}, pre ++ l :: r = ls → (ls.map D.bytes)[((pre.length : Nat) : Int).toNat]? = some (.bytes l) := fun hp => hp ▸ xP
  induction h with
  | nil e =>
    intro pre _ hp _
    rw [ar] at hp; subst hp
    exact af (.lenL rfl) (cn (fP (bA _)) (q1 e _ _).1)
  | @put0 l r p0 p1 p2 h _ ih =>
    intro pre _ hp hs
    refine af (.lenL rfl) (cy (lt hp) (aM (.it rfl (av _) (at_ hp)) ?_))
    refine cr hW hm ?_
    rw [h]
    refine aw .isN (a6 rfl (aM (.hls rfl (by decide) rfl) (aM (.it rfl (av _) (at_ hp)) (af (.append rfl (z0 hp hs (ab (ai _ _) (ai _ _)))) ?_))))
    have := ih (e := .d .none) (nx hp) (by rw [ln, ln, eU, eU]; exact aj hs)
    rw [ln, aB] at this; exact this
  | @put1 l r p0 p1 p2 h _ ih =>
    intro pre _ hp hs
    refine af (.lenL rfl) (cy (lt hp) (aM (.it rfl (av _) (at_ hp)) ?_))
    refine cr hW hm ?_
    rw [h]
    refine aw .isN (a6 rfl (aM (.hls rfl (by decide) rfl) (aM (.it rfl (av _) (at_ hp)) (af (.append rfl (z0 hp hs (ab (aK _ _) (ai _ _)))) ?_))))
    have := ih (e := .d .none) (nx hp) (by rw [ln, ln, ← aZ, eU]; exact aj hs)
    rw [ln, aB] at this; exact this
  | @put2 l r p0 p1 p2 h _ ih =>
    intro pre _ hp hs
    refine af (.lenL rfl) (cy (lt hp) (aM (.it rfl (av _) (at_ hp)) ?_))
    refine cr hW hm ?_
    rw [h]
    refine aw .isN (a6 rfl (aM (.hls rfl (by decide) rfl) (aM (.it rfl (av _) (at_ hp)) (af (.append rfl (z0 hp hs (aK _ _))) ?_))))
    have := ih (e := .d .none) (nx hp) (by rw [ln, ln]; exact aj hs)
    rw [ln, aB] at this; exact this
  | @next l r k t p0 p1 p2 h a b _ ih =>
    intro pre _ hp hs
    refine af (.lenL rfl) (cy (lt hp) (aM (.it rfl (av _) (at_ hp)) ?_))
    refine cr hW hm ?_
    rw [h]
    refine aw (.isO (.int _)) (aN rfl (cn (fun h => cY b (ly.inj h)) (aN rfl (cy (bj.mpr a) (cy (bj.mpr b) (a6 rfl ?_))))))
    have := ih (e := .d (.int t)) (nx hp) (by rw [ln]; exact bg hs)
    rw [ln] at this; exact this
  | @done l r p0 p1 p2 h e =>
    intro pre _ hp hs
    refine af (.lenL rfl) (cy (lt hp) (aM (.it rfl (av _) (at_ hp)) ?_))
    refine cr hW hm ?_
    rw [h]
    refine aw (.isO (.int _)) (aN rfl (cy rfl (cy rfl (a6 rfl ?_))))
    refine aM (.hls rfl (by decide) rfl) (aM (.hls rfl (by decide) rfl) (aM (.hls rfl (by decide) rfl) (ii hW ?_)))
    have := q2 _ _ _ _ e
    rw [← hp, show (((pre ++ l :: r).length : Nat) : Int) - r.length = pre.length + 1 by rw [ac, ao]; exact aH (.O (.s (.c (.a .A (.a .B .I))) (.c .B)) (.a (.c .A) .I)) rf [_,_] []] at this
    exact this _ _
  | @stop l r k t p0 p1 p2 h a b e =>
    intro pre _ hp hs
    refine af (.lenL rfl) (cy (lt hp) (aM (.it rfl (av _) (at_ hp)) ?_))
    refine cr hW hm ?_
    rw [h]
    refine aw (.isO (.int _)) (aN rfl ?_)
    have go : (an (fu (du (bd .Gt (eV 6) (eV 5)) (du (bd .Lt (eV 6) (eC (.int 3))) dh)) (an (dN 5 (eV 6)) aq) (an (bS (eC .none)) aq)) aq) [.d (c5 ls), v, .d (.int m), .hd 3, .d (.int pre.length), .d (.int k), .d (.int t)] [.list (p0.map .bytes), .list (p1.map .bytes), .list (p2.map .bytes), .hls [0, 1, 2]] (gZ aq (gZ (an (kX 4 .Add (eC (.int 1))) aq) (nB (cW iE (iD (CallP W (n + 2))) (r.length + 1)) Q))) := by
      by_cases c2 : k < t
      · exact cy (bj.mpr c2) (cn (fun h => b ⟨c2, bj.mp h⟩) (aN rfl (q1 e _ _).2))
      · exact cn (fun h => c2 (bj.mp h)) (aN rfl (q1 e _ _).2)
    by_cases c3 : t = 3
    · exact cy (congrArg _ c3) (cn (fun h => a ⟨c3, ly.inj h⟩) (aN rfl go))
    · exact cn (fun h => c3 (ly.inj h)) (aN rfl go)
theorem lV (hW : Wk W) {pre rest : List Ln} {l : Ln} {m : Nat} {o : Option (List Ln × List Ln × List Ln × List Ln)} (hm : m ≤ 1000) (hl : (pre ++ l :: rest).length ≤ 100000) (h : Rd m o rest 0 [] [] []) (q : Q (.d (rdD (pre ++ l :: rest).length o)) σ) : CallP W (n + 3) 515 [.d (c5 (pre ++ l :: rest)), .d (.int pre.length), .d (.int m)] σ Q := by
  refine nD hW (ws := [.d (c5 (pre ++ l :: rest)), .d (.int pre.length), .d (.int m)]) rfl rfl rfl ?_
  refine af (.hd rfl) (af (.hd rfl) (af (.hd rfl) (af (.hls rfl) (iH (rest.length + 1) ?_))))
  have h := at_loop hW (n := n) (v := .d (.int pre.length)) (ls := pre ++ l :: rest) (Q := gZ (an (bS (eC .none)) aq) (gM [] 0 σ Q)) hm hl (fun e ρ τ => by rw [e] at q; exact ⟨q, q⟩) (fun x y z r e ρ τ => by rw [e] at q; exact q) h (pre := pre ++ [l]) (e := .un) (by rw [ag]; rfl) (aY _)
  rw [ac] at h
  exact h
end
inductive Pc where
  | plain (l : List Ln)
  | conf (b o t : List Ln)
noncomputable def vf : Pc → D
  | .plain l => qV "same" l l l
  | .conf b o t => qV "conflict" b o t
noncomputable def c7 (pl : List Ln) : List Pc := if pl = [] then [] else [.plain pl]
inductive Ent where
  | ln (l : Ln)
  | cf (b o t : List Ln)
noncomputable abbrev uf := Option (List Ln × List Ln × List Ln × List Ln)
inductive Evs (m : Nat) : List Ln → List Ent → Prop
  | nil : Evs m [] []
  | ln {l r es} (h : bD l m = some 0 → Rd m none r 0 [] [] []) (k : Evs m r es) : Evs m (l :: r) (.ln l :: es)
  | cf {l r r' p0 p1 p2 es} (h : bD l m = some 0) (c : Rd m (some (p0, p1, p2, r')) r 0 [] [] []) (k : Evs m r' es) : Evs m (l :: r) (.cf p1 p0 p2 :: es)
theorem Rd.suf {m : Nat} {o : uf} {a b c r ls : List Ln} {k : Nat} {p0 p1 p2 : List Ln} (ho : o = some (a, b, c, r)) (h : Rd m o ls k p0 p1 p2) : ∃ l mid, ls = l :: mid ++ r := by
  subst ho
  induction h with
  | nil e => cases e
  | stop _ _ _ e => cases e
  | done _ e => cases e; exact ⟨_, [], rfl⟩
  | put0 _ _ ih => exact have ⟨y, mid, e⟩ := ih; ⟨_, y :: mid, congrArg _ e⟩
  | put1 _ _ ih => exact have ⟨y, mid, e⟩ := ih; ⟨_, y :: mid, congrArg _ e⟩
  | put2 _ _ ih => exact have ⟨y, mid, e⟩ := ih; ⟨_, y :: mid, congrArg _ e⟩
  | next _ _ _ _ ih => exact have ⟨y, mid, e⟩ := ih; ⟨_, y :: mid, congrArg _ e⟩
theorem Rd.ex (m : Nat) : ∀ (ls : List Ln) (k : Nat) (p0 p1 p2 : List Ln), k ≤ 2 → ∃ o, Rd m o ls k p0 p1 p2
  | [], k, p0, p1, p2, _ => ⟨none, .nil rfl⟩
  | l :: r, k, p0, p1, p2, hk => by
    cases h : bD l m with
    | none =>
      rcases Nat.le_succ_iff.mp hk with hk | rfl
      · rcases Nat.le_succ_iff.mp hk with hk | rfl
        · cases oK.mp hk
          exact have ⟨o, i⟩ := Rd.ex m r 0 (p0 ++ [l]) p1 p2 (by decide); ⟨o, .put0 h i⟩
        · exact have ⟨o, i⟩ := Rd.ex m r 1 p0 (p1 ++ [l]) p2 (by decide); ⟨o, .put1 h i⟩
      · exact have ⟨o, i⟩ := Rd.ex m r 2 p0 p1 (p2 ++ [l]) (by decide); ⟨o, .put2 h i⟩
    | some t =>
      by_cases c : t = 3 ∧ k = 2
      · obtain ⟨rfl, rfl⟩ := c; exact ⟨_, .done h rfl⟩
      by_cases d : k < t ∧ t < 3
      · exact have ⟨o, i⟩ := Rd.ex m r t p0 p1 p2 (dY d.2); ⟨o, .next h d.1 d.2 i⟩
      · exact ⟨none, .stop h c d rfl⟩
theorem Evs.ex (m : Nat) : ∀ (n : Nat) (ls : List Ln), ls.length ≤ n → ∃ es, Evs m ls es
  | _, [], _ => ⟨[], .nil⟩
  | n + 1, l :: r, hn => by
    have hr := cZ hn
    obtain ⟨o, h⟩ := Rd.ex m r 0 [] [] [] (by decide)
    by_cases h0 : bD l m = some 0
    · induction o using Option.casesOn with
      | none => exact have ⟨es, he⟩ := Evs.ex m n r hr; ⟨_, .ln (fun _ => h) he⟩
      | some z =>
        obtain ⟨p0, p1, p2, r'⟩ := z
        obtain ⟨y, mid, e⟩ := h.suf rfl
        have ⟨es, he⟩ := Evs.ex m n r' (ab (by rw [e, ac]; exact aK _ _) hr)
        exact ⟨_, .cf h0 h he⟩
    · exact have ⟨es, he⟩ := Evs.ex m n r hr; ⟨_, .ln (fun h => (h0 h).elim) he⟩
noncomputable def gj : List Ln → List Ent → List Pc
  | pl, [] => c7 pl
  | pl, .ln l :: es => gj (pl ++ [l]) es
  | pl, .cf b o t :: es => c7 pl ++ .conf b o t :: gj [] es
section
variable {a x y : MO} {j : List MO} {l : List D}
theorem oZ : (a :: (j ++ [x]))[j.length + 1]? = some x := by rw [List.getElem?_cons_succ, uh]
theorem wG : (a :: (j ++ [x])).set (j.length + 1) y = a :: (j ++ [y]) := congrArg (a :: ·) set_last
theorem n8 : cu (a :: (j ++ [.list l])) (.hd (j.length + 1)) = some l := by
  show ((a :: (j ++ [.list l]))[j.length + 1]?).bind xV = _
  rw [oZ]; rfl
end
section
variable {W : Wd} {n : Nat} {σ : List MO} {Q : VQ}
theorem ur (hW : Wk W) {Q : FX} {v0 v1 v2 : V} {i : V} {e6 : V} {pl : List Ln} {acc : List Pc} {j : List MO} (hz : acc.length < 16777216)
    (q : Q .next [v0, v1, v2, .hd 0, .hd (j.length + 1), i, e6] (.list ((acc ++ [Pc.plain pl]).map vf) :: (j ++ [.frz (.lst (pl.map .bytes))]))) : iY (fC .append (eV 3) (ae (a8 (CallP W (n + 2)) 359 (ae (eC (.str "same")) (ae (eV 4) (ae (eV 4) (ae (eV 4) ak))))) ak)) [v0, v1, v2, .hd 0, .hd (j.length + 1), i, e6] (.list (acc.map vf) :: (j ++ [.list (pl.map .bytes)])) Q := by
  refine iz oZ ?_
  show ldK (List.set _ _ _) _ _
  rw [wG]
  refine iz oZ (iz oZ (ii hW (af (.append rfl (by rw [ah]; exact hz)) ?_)))
  rw [aB] at q
  exact q
end
section
variable {W : Wd} {n : Nat} {σ : List MO} {Q : VQ}
theorem last_bm {a : MO} {j : List MO} {l : List D} : bmOk .append (a :: (j ++ [.list l])) (.hd (j.length + 1)) = true := congrArg oH n8
theorem mu : c7 [] = [] := if_pos rfl
theorem pP {pl : List Ln} (h : ¬ pl = []) : c7 pl = [.plain pl] := if_neg h
theorem xA (hW : Wk W) {m : Nat} {v : V} {ls : List Ln} {Q : FX} (hm : m ≤ 1000) (hl : ls.length ≤ 100000) {rest : List Ln} {es : List Ent} (h : Evs m rest es) : ∀ {pre pl : List Ln} {acc : List Pc} {j : List MO} {e : V}, pre ++ rest = ls → pl.length ≤ pre.length → acc.length ≤ 2 * pre.length →
    (∀ acc' pl' j' i e, acc' ++ c7 pl' = acc ++ gj pl es → acc'.length ≤ 200000 → Q .next [v, .d (.int m), .d (c5 ls), .hd 0, .hd (dV j' + 1), i, e] (.list (acc'.map vf) :: (j' ++ [.list (pl'.map .bytes)]))) →
    cW d8 (d7 (CallP W (n + 3))) (es.length + 1) [v, .d (.int m), .d (c5 ls), .hd 0, .hd (j.length + 1), .d (.int pre.length), e] (.list (acc.map vf) :: (j ++ [.list (pl.map .bytes)])) Q := by
  have nx : ∀ {pre : List Ln} {l r}, pre ++ l :: r = ls → (pre ++ [l]) ++ r = ls := fun hp => (ag _ _ _).trans hp
  have ln : ∀ {pre : List Ln} {l : Ln}, (pre ++ [l]).length = pre.length + 1 := ac
  have lt : ∀ {pre : List Ln} {l r}, pre ++ l :: r = ls → (pre.length : Int) < ((ls.map D.bytes).length : Int) := fun hp => hp ▸ xO
  have at_ : ∀ {pre : List Ln} {l r}, pre ++ l :: r = ls → (ls.map D.bytes)[((pre.length : Nat) : Int).toNat]? = some (.bytes l) := fun hp => hp ▸ xP
  have pz : ∀ {pre rest : List Ln}, pre ++ rest = ls → pre.length ≤ 100000 := fun hp => ab (by rw [← hp, ac]; exact ai _ _) hl
  induction h with
  | nil =>
    intro pre pl acc j _ hp _ ha q
    have := pz hp
    rw [ar] at hp; subst hp
    exact af (.lenL rfl) (cn (fP (bA _)) (q acc pl j _ _ rfl (ab ha (a5 2 this))))
  | @ln l r es h _ ih =>
    intro pre pl acc j _ hp hpl ha q
    rw [ao]
    have plain : (iI (CallP W (n + 3))) [v, .d (.int m), .d (c5 ls), .hd 0, .hd (j.length + 1), .d (.int pre.length), .d .none] (.list (acc.map vf) :: (j ++ [.list (pl.map .bytes)])) (nB (cW d8 (d7 (CallP W (n + 3))) (es.length + 1)) Q) := by
      refine aw .isN (a6 rfl (oj last_bm (aM (.it rfl (av _) (at_ hp)) (af (.append oZ (by rw [ah]; exact aL (ab hpl (pz hp)) (by decide))) ?_))))
      rw [wG]
      have := ih (pre := pre ++ [l]) (pl := pl ++ [l]) (acc := acc) (j := j) (e := .d .none) (nx hp) (by rw [ln, ln]; exact aj hpl) (ab ha (a5 2 (by rw [ln]; exact bO _))) q
      rw [ln, aB] at this
      exact this
    refine af (.lenL rfl) (cy (lt hp) (aM (.it rfl (av _) (at_ hp)) ?_))
    refine cr hW hm ?_
    cases hn : bD l m with
    | none => exact aw (.eq (.atom (.noneI 0))) (aN rfl plain)
    | some t =>
      by_cases c : t = 0
      · subst c
        refine cy rfl ?_
        subst hp
        exact lV hW hm hl (h hn) plain
      · exact cn (fun h => c (ly.inj h)) plain
  | @cf l r r' p0 p1 p2 es h c _ ih =>
    intro pre pl acc j _ hp hpl ha q
    rw [ao]
    refine af (.lenL rfl) (cy (lt hp) (aM (.it rfl (av _) (at_ hp)) ?_))
    refine cr hW hm ?_
    rw [h]
    refine cy rfl ?_
    obtain ⟨y, mid, rfl⟩ := c.suf rfl
    have tail : ∀ (acc' : List Pc) (j' : List MO), acc' = acc ++ c7 pl → gZ (an (iY (fC .append (eV 3) (ae (bY (eV 6) (eC (.int 0))) ak))) (an (dN 5 (bY (eV 6) (eC (.int 1)))) aq)) (gZ aq (nB (cW d8 (d7 (CallP W (n + 3))) (es.length + 1)) Q)) .next [v, .d (.int m), .d (c5 ls), .hd 0, .hd (j'.length + 1), .d (.int pre.length), .d (rdD ls.length (some (p0, p1, p2, r')))] (.list (acc'.map vf) :: (j' ++ [.list []])) := by
      intro acc' j' e
      have la : acc'.length ≤ 2 * pre.length + 1 := by rw [e, ac]; exact aA ha (by unfold c7; split <;> exact aP rfl)
      refine aM (.tup (by decide) rfl) (af (.append rfl (by rw [ah]; exact aL la (aL (aj (a5 2 (pz hp))) (by decide)))) (aM (.tup (by decide) rfl) ?_))
      have hl' : (pre ++ l :: (y :: mid)).length + r'.length = ls.length := by rw [← hp, ← ac, ag]; rfl
      have := ih (pre := pre ++ l :: (y :: mid)) (pl := []) (acc := acc' ++ [.conf p1 p0 p2]) (j := j') (e := .d (rdD ls.length (some (p0, p1, p2, r')))) (by rw [ag]; exact hp) (aY _) (by rw [ac, ac]; exact ab (aj la) (by rw [ao, ao]; exact aH (.p (.a (.a (.m 2 .A) .I) .I) (.m 2 (.a .A (.a (.a .B .I) .I)))) rf [_,_] [])) (by rw [e, ag, ag]; exact q)
      rw [show ((pre ++ l :: (y :: mid)).length : Int) = (ls.length : Int) - r'.length by exact aH (.e (.a .A .B) .C (.O (.c .A) (.s (.c .C) (.c .B)))) rf [_,_,_] [] hl', aB] at this
      exact this
    subst hp
    refine lV hW hm hl c ?_
    refine aw (.isO (.tup _)) ?_
    refine aN rfl ?_
    refine af (.d rfl) ?_
    refine aw (fe (dR n8)) ?_
    by_cases e : pl = []
    · subst e
      exact cn (fun h => h rfl) (tail acc j (by rw [mu, ar]))
    · refine cy (fun h => e (map_nil'.mp h)) (ur hW (aL (ab ha (a5 2 (pz rfl))) (by decide)) (af (.hd rfl) ?_))
      have := tail (acc ++ [.plain pl]) (j ++ [.frz (.lst (pl.map .bytes))]) (by rw [pP e])
      exact this
theorem fS (hW : Wk W) {b : Ln} {m : Nat} {es : List Ent} (hm : m ≤ 1000) (hb : b.length ≤ 100000) (h : Evs m (bU b) es) (q : Q (.d (.lst ((gj [] es).map vf))) σ) : CallP W (n + 4) 523 [.d (.bytes b), .d (.int m)] σ Q := by
  refine nD hW rfl rfl rfl ?_
  refine g9 hW (ab hb (by decide)) ?_
  refine af (.hd rfl) (af (.hd rfl) (iH (es.length + 1) ?_))
  refine xA hW (j := []) hm (ab (lO b) hb) h (pre := []) (pl := []) (acc := []) rfl (au _) (au _) fun acc pl j i e he hz => ?_
  refine af (.d rfl) (aw (fe (dR n8)) ?_)
  by_cases e : pl = []
  · subst e
    rw [mu, ar] at he
    subst he
    exact cn (fun h => h rfl) q
  · rw [pP e] at he
    refine cy (fun h => e (map_nil'.mp h)) (ur hW (aL hz (by decide)) ?_)
    rw [he]
    exact q
end
structure LsOk (l : List Ln) : Prop where
  n : l.length ≤ 60
  x : ∀ x ∈ l, x.length ≤ 64
theorem ku {α β : Type} {f : α → List β} {c : Nat} : ∀ {l : List α}, (∀ x ∈ l, (f x).length ≤ c) → (l.flatMap f).length ≤ l.length * c
  | [], _ => aY _
  | x :: r, h => by
    rw [aF, ac, ao, jo, bq]
    exact aA (ku fun y m => h y (.tail _ m)) (h x (.head _))
theorem s7 {α : Type} {c : Nat} {l : List (List α)} (h : ∀ x ∈ l, x.length ≤ c) : l.flatten.length ≤ l.length * c := by
  rw [← List.flatMap_id]; exact ku h
theorem lT {α β : Type} {f : α → List (List β)} {c : Nat} : ∀ {l : List α}, (∀ x ∈ l, (f x).flatten.length ≤ c) → (l.flatMap f).flatten.length ≤ l.length * c
  | [], _ => aY _
  | x :: r, h => by
    rw [aF, cx, ac, ao, jo, bq]
    exact aA (lT fun y m => h y (.tail _ m)) (h x (.head _))
theorem LsOk.flat {l : List Ln} (h : LsOk l) : l.flatten.length ≤ 3840 := ab (s7 h.x) (aT 64 h.n)
theorem fq {l : List Ln} {e : Ln} : (cX l e).flatten.length ≤ l.flatten.length + e.length ∧ (cX l e).length = l.length := by
  rcases fb l with rfl | ⟨l', x, rfl⟩
  · exact ⟨aY _, rfl⟩
  · rw [cF, show cX (l' ++ [x]) e = if eF x = true then l' ++ [x] else l' ++ [x ++ e] by unfold cX; rw [iO]; dsimp only; rw [nR]]
    split
    · exact ⟨ai _ _, rfl⟩
    · rw [cx, cx, ac, ac, ac, ac, eM, eM, ac, aZ]
      exact ⟨au _, rfl⟩
inductive PcOk : Pc → Prop
  | plain {l} (h : LsOk l) : PcOk (.plain l)
  | conf {b o t} (hb : LsOk b) (ho : LsOk o) (ht : LsOk t) : PcOk (.conf b o t)
noncomputable def nS : Pc → List Ln
  | .plain _ => []
  | .conf _ o t => [(bX o t).1, [0], (bX o t).2, [0]]
noncomputable def nF (m : Nat) : Pc → List Ln
  | .plain l => l
  | .conf _ o t => [qK 0 m "" [10], (bX o t).1, qK 2 m "" [10], (bX o t).2, qK 3 m "" [10]]
theorem mkL_len {i m : Nat} : (qK i m "" [10]).length = m + 1 := by
  unfold qK; rw [if_pos rfl, ar, ac, be]; rfl
theorem wi {o t : List Ln} (ho : LsOk o) (ht : LsOk t) : (bX o t).1.length ≤ 3841 ∧ (bX o t).2.length ≤ 3841 := by
  have h1 := ab (fq (l := o) (e := [10])).1 (aj ho.flat)
  have h2 := ab (fq (l := t) (e := [10])).1 (aj ht.flat)
  unfold bX
  split
  · exact ⟨h1, h2⟩
  · exact ⟨h2, h1⟩
theorem PcOk.nF {m : Nat} (hm : m ≤ 10) {p : Pc} (h : PcOk p) : (Mine.nF m p).length ≤ 60 ∧ (Mine.nF m p).flatten.length ≤ 8000 ∧ (nS p).length ≤ 4 ∧ (nS p).flatten.length ≤ 8000 := by
  induction h using PcOk.casesOn with
  | plain h => exact ⟨h.n, ab h.flat (by decide), aY _, aY _⟩
  | @conf b o t hb ho ht =>
    obtain ⟨h1, h2⟩ := wi ho ht
    refine ⟨aP rfl, ?_, au 4, ?_⟩
    · show ([qK 0 m "" [10], (bX o t).1, qK 2 m "" [10], (bX o t).2, qK 3 m "" [10]] : List Ln).flatten.length ≤ _
      simp only [b6, se, ac, bK, mkL_len]; exact aH (.l .A (.n 10) (.l .A (.n 10) (.l .A (.n 10) (.l .B (.n 3841) (.l .C (.n 3841) (.p (.a (.a .A .I) (.a .B (.a (.a .A .I) (.a .C (.a (.a .A .I) .O))))) (.n 8000))))))) rf [_,_,_] [] hm hm hm h1 h2
    · show ([(bX o t).1, [0], (bX o t).2, [0]] : List Ln).flatten.length ≤ _
      simp only [b6, se, ac, bK, ao]; exact aH (.l .A (.n 3841) (.l .B (.n 3841) (.p (.a .A (.a (.a .O .I) (.a .B (.a (.a .O .I) .O)))) (.n 8000)))) rf [_,_] [] h1 h2
theorem dQ {α β : Type} {f : α → β} {l : List α} {k : Nat} (h : l.length + k ≤ 16777215) : (l.map f).length + k ≤ 16777216 := by rw [ah]; exact bg h
section
variable {W : Wd} {n : Nat} {Q : FX}
theorem qf (hW : Wk W) {m z : Nat} {mm : Ln → Option Int} {v0 v1 e8 : V} (hm : m ≤ 10) : ∀ (ps : List Pc) {F S : List Ln} {e5 e6 e7 : V}, (∀ p ∈ ps, PcOk p) → F.length + (ps.flatMap (nF m)).length ≤ 16777215 → S.length + (ps.flatMap nS).length ≤ 16777215 →
    (∀ e5 e6 e7, Q .next [v0, v1, .d (.int m), .hd 2, .hd 3, e5, e6, e7, e8] [.inst 108 [.d (.int 4), .hd 1], .bmap mm z, .list ((F ++ ps.flatMap (nF m)).map .bytes), .list ((S ++ ps.flatMap nS).map .bytes)]) →
    gl (iL (CallP W (n + 4))) 5 (ps.map vf) [v0, v1, .d (.int m), .hd 2, .hd 3, e5, e6, e7, e8] [.inst 108 [.d (.int 4), .hd 1], .bmap mm z, .list (F.map .bytes), .list (S.map .bytes)] Q
  | [], F, S, e5, e6, e7, _, _, _, q => by
    rw [ct, ct, ar, ar] at q
    exact q _ _ _
  | .plain l :: ps, F, S, e5, e6, e7, ok, hF, hS, q => by
    rw [aF, ← ag, aF] at q
    rw [aF, ac, ← aZ] at hF
    refine aw (fe (.atom uO)) (cy (by decide) (af (.extend rfl rfl ?_) ?_))
    · rw [ah (as := l)]; exact dQ (ab (ai _ _) hF)
    · have := qf hW hm ps (F := F ++ l) (S := S) (e5 := .d (vf (.plain l))) (e6 := e6) (e7 := e7) (fun p h => ok p (.tail _ h)) (by rw [ac]; exact hF) hS q
      rw [aB] at this
      exact this
  | .conf b o t :: ps, F, S, e5, e6, e7, ok, hF, hS, q => by
    rw [aF, ← ag, aF, ← ag] at q
    rw [aF, ac, ← aZ] at hF hS
    have hF' : F.length + 5 ≤ 16777215 := ab (ai _ _) hF
    have hS' : S.length + 4 ≤ 16777215 := ab (ai _ _) hS
    cases ok _ (.head _) with | conf hb ho ht =>
    refine aw (fe (.atom uO)) (cn (fun h => h rfl) ?_)
    refine pe hW (u := "conflict") (a := b) (b := o) (c := t) (ab ho.n (by decide)) (ab ht.n (by decide)) (fun x h => ab (ho.x x h) (by decide)) (fun x h => ab (ht.x x h) (by decide)) (ab fq.1 (ab (aj ho.flat) (by decide))) (ab fq.1 (ab (aj ht.flat) (by decide))) ?_
    refine af (.d rfl) (af (.extend rfl rfl (dQ hS')) ?_)
    refine dB hW (i := 0) (by decide) (ab hm (by decide)) (by decide) nofun (by decide) ?_
    refine dB hW (i := 2) (by decide) (ab hm (by decide)) (by decide) nofun (by decide) ?_
    refine af (.d rfl) (af (.extend rfl rfl (dQ (k := 4) (ab (bO _) hF'))) ?_)
    refine dB hW (i := 3) (by decide) (ab hm (by decide)) (by decide) nofun (by decide) ?_
    refine af (.append rfl (by rw [ac, ah]; exact ax (dy (by decide : 4 < 5) _) (bg hF'))) ?_
    have := qf hW hm ps (F := F ++ nF m (.conf b o t)) (S := S ++ nS (.conf b o t)) (e5 := .d (vf (.conf b o t))) (e6 := .d (.bytes (bX o t).1)) (e7 := .d (.bytes (bX o t).2)) (fun p h => ok p (.tail _ h)) (by rw [ac]; exact hF) (by rw [ac]; exact hS) q
    rw [aB, aB] at this
    rw [ag]
    exact this
theorem iP : ∀ (es : List Ent) (pl : List Ln), (gj pl es).length ≤ es.length + 1 ∧ (pl = [] → (gj pl es).length ≤ es.length)
  | [], pl => by
    show (c7 pl).length ≤ _ ∧ _
    refine ⟨by unfold c7; split <;> exact aP rfl, fun h => ?_⟩
    rw [h]; show (c7 []).length ≤ _; rw [mu]; exact au _
  | .ln l :: es, pl => have h := (iP es (pl ++ [l])).1; ⟨bg h, fun _ => h⟩
  | .cf b o t :: es, pl => by
    have h := (iP es []).2 rfl
    have e : (gj pl (.cf b o t :: es)).length = (c7 pl).length + ((gj [] es).length + 1) := ac
    rw [e]
    refine ⟨?_, fun e => ?_⟩
    · rw [bq]; exact aA (aj h) (by unfold c7; split <;> exact aP rfl)
    · rw [e, mu]; exact ab (aW (aS _)) (aj h)
structure EsOk (es : List Ent) : Prop where
  n : es.length ≤ 60
  ln : ∀ l, Ent.ln l ∈ es → l.length ≤ 64
  cf : ∀ b o t, Ent.cf b o t ∈ es → LsOk b ∧ LsOk o ∧ LsOk t
theorem xW : ∀ (es : List Ent) (pl : List Ln), (∀ l, Ent.ln l ∈ es → l.length ≤ 64) → (∀ b o t, Ent.cf b o t ∈ es → LsOk b ∧ LsOk o ∧ LsOk t) → pl.length + es.length ≤ 60 → (∀ x ∈ pl, x.length ≤ 64) → ∀ p ∈ gj pl es, PcOk p
  | es, pl, hl, hc, hn, hp => by
    have ap : ∀ p ∈ c7 pl, PcOk p := fun p h => by
      unfold c7 at h
      split at h
      · cases h
      · cases am.mp h; exact .plain ⟨aG hn, hp⟩
    match es, hl, hc, hn with
    | [], _, _, _ => exact ap
    | .ln l :: es, hl, hc, hn =>
      exact xW es (pl ++ [l]) (fun x h => hl x (.tail _ h)) (fun b o t h => hc b o t (.tail _ h)) (by rw [ac]; exact ab (aW (bv _ _)) hn) fun x h => (bk.mp h).elim (hp x) fun h => by cases am.mp h; exact hl l (.head _)
    | .cf b o t :: es, hl, hc, hn =>
      exact fun p h => (bk.mp h).elim (ap p) fun h => by
        cases h with
        | head => exact have ⟨a, b, c⟩ := hc b o t (.head _); .conf a b c
        | tail _ h => exact xW es [] (fun x h => hl x (.tail _ h)) (fun b o t h => hc b o t (.tail _ h)) (ab (aA (aY _) (bO _)) hn) nofun p h
theorem EsOk.pc {es : List Ent} (h : EsOk es) : ∀ p ∈ gj [] es, PcOk p := xW es [] h.ln h.cf (ab (aW (aS _)) h.n) nofun
noncomputable def entF (g : Ln → List Ln) (f : Pc → List Ln) : Ent → List Ln
  | .ln l => g l
  | .cf b o t => f (.conf b o t)
theorem sY {g : Ln → List Ln} {f : Pc → List Ln} (h : ∀ l, f (.plain l) = l.flatMap g) : ∀ (es : List Ent) (pl : List Ln), (gj pl es).flatMap f = pl.flatMap g ++ es.flatMap (entF g f)
  | es, pl => by
    have ap : (c7 pl).flatMap f = pl.flatMap g := by
      unfold c7
      split
      · rename_i e; rw [e]; rfl
      · rw [aF, ct, ar]; exact h pl
    match es with
    | [] => rw [ct, ar]; exact ap
    | .ln l :: es =>
      show (gj (pl ++ [l]) es).flatMap f = _
      rw [sY h es, fR, aF, aF, ct, ar, ag]; rfl
    | .cf b o t :: es =>
      show (c7 pl ++ .conf b o t :: gj [] es).flatMap f = _
      rw [fR, ap, aF, sY h es, aF]; rfl
theorem s8 {α : Type} : ∀ {l : List α}, l = l.flatMap fun x => [x]
  | [] => rfl
  | x :: r => congrArg (x :: ·) s8
noncomputable def gN : Ent → List Ln := entF (fun _ => []) nS
noncomputable def zL (m : Nat) : Ent → List Ln := entF (fun x => [x]) (nF m)
theorem xN {es : List Ent} : (gj [] es).flatMap nS = es.flatMap gN := sY (fun l => (xg.mpr fun _ _ => rfl).symm) es []
theorem AQ {m : Nat} {es : List Ent} : (gj [] es).flatMap (nF m) = es.flatMap (zL m) := sY (fun _ => s8) es []
theorem eD (hW : Wk W) {σ : List MO} {Q : VQ} {b : Ln} {m k j z : Nat} {mm : Ln → Option Int} {es : List Ent} (H : HsAt σ k j mm z) (hz : z < 200) (hm : m ≤ 10) (hb : b.length ≤ 100000) (h : Evs m (bU b) es) (ok : EsOk es)
    (q0 : es.flatMap gN = [] → Q (.d (.tup [.none, .bytes (es.flatMap (zL m)).flatten])) σ)
    (q1 : es.flatMap gN ≠ [] → Q (.d (.tup [.bytes [0, 0, 0, (tS mm z (es.flatMap gN).flatten).toNat.toUInt8], .bytes (es.flatMap (zL m)).flatten])) (σ.set j (.bmap (tM mm z (es.flatMap gN).flatten) (dz mm z (es.flatMap gN).flatten)))) :
    CallP W (n + 5) 538 [.d (.bytes b), .hd k, .d (.int m)] σ Q := by
  have ne : k ≠ j := fun e => by subst e; cases H.i.symm.trans H.b
  have hn := ab ((iP es []).2 rfl) ok.n
  have l1 : (gj [] es).flatMap (nF m) = es.flatMap (zL m) := AQ
  have l2 : (gj [] es).flatMap nS = es.flatMap gN := xN
  have b1 := ab (ku fun p hp => (PcOk.nF hm (ok.pc p hp)).1) (aT 60 hn)
  have b2 := ab (lT fun p hp => (PcOk.nF hm (ok.pc p hp)).2.1) (aT 8000 hn)
  have b3 := ab (ku fun p hp => (PcOk.nF hm (ok.pc p hp)).2.2.1) (aT 4 hn)
  have b4 := ab (lT fun p hp => (PcOk.nF hm (ok.pc p hp)).2.2.2) (aT 8000 hn)
  refine Bm (ws := [.d (.bytes b), .hd 0, .d (.int m)]) (σL := [.inst 108 [.d (.int 4), .hd 1], .bmap mm z]) [k, j] 0 hW rfl rfl rfl (bt.mpr ⟨fun e => ne (am.mp e), bQ _ _⟩) ⟨H.i, H.b, trivial⟩ rfl ?_
  refine af (.hd rfl) (af (.hd rfl) ?_)
  refine fS hW (ab hm (by decide)) hb h (ef (d := .lst _) rfl ?_)
  refine qf hW hm (gj [] es) (F := []) (S := []) ok.pc (ab (aW (aS _)) (ab b1 (by decide))) (ab (aW (aS _)) (ab b3 (by decide))) fun e5 e6 e7 => ?_
  rw [cJ, cJ]
  rw [l1] at b2 ⊢
  rw [l2] at b4 ⊢
  refine af (.d rfl) (aw (fe (dR rfl)) ?_)
  by_cases c : es.flatMap gN = []
  · refine cn (fun h => h (map_nil'.mpr c)) (af (.joinB rfl (ab b2 (by decide))) ?_)
    show Q _ ((σ.set k (.inst 108 [.d (.int 4), .hd j])).set j (.bmap mm z))
    rw [dL H.i, dL H.b]
    exact q0 c
  · refine cy (fun h => c (map_nil'.mp h)) (af (.joinB rfl (ab b4 (by decide))) ?_)
    refine uH hW (k := 0) (j := 1) ⟨rfl, rfl, H.lim⟩ hz (af (.joinB rfl (ab b2 (by decide))) ?_)
    show Q _ ((σ.set k (.inst 108 [.d (.int 4), .hd j])).set j _)
    rw [dL H.i]
    exact q1 c
end
noncomputable abbrev et (ls : List Ln) (cs : List dA) (a : Nat) (sh : Int) : MO := .inst 401 [.d (c5 ls), .d (.lst (cs.map xm)), .d (.int a), .d (.int sh)]
noncomputable def tp (r : List dA) : D := match r with | c :: _ => .int c.a0 | [] => .none
inductive Tk : List dA → Nat → List dA → List dA → Nat → Prop
  | stop {r e} (h : ∀ c, r.head? = some c → e < c.a0) : Tk r e [] r e
  | go {c r t u e e'} (h : c.a0 ≤ e) (i : Tk r (max e c.a1) t u e') : Tk (c :: r) e (c :: t) u e'
theorem Tk.app {r t u : List dA} {e e' : Nat} (h : Tk r e t u e') : r = t ++ u := by
  induction h with
  | stop => rfl
  | go _ _ ih => exact congrArg _ ih
theorem Tk.le {r t u : List dA} {e e' : Nat} (h : Tk r e t u e') : e ≤ e' := by
  induction h with
  | stop => exact au _
  | go _ _ ih => exact ab (Nat.le_max_left _ _) ih
theorem Tk.ex : ∀ (r : List dA) (e : Nat), ∃ t u e', Tk r e t u e'
  | [], e => ⟨_, _, _, .stop nofun⟩
  | c :: r, e => if h : c.a0 ≤ e then have ⟨_, _, _, i⟩ := Tk.ex r (max e c.a1); ⟨_, _, _, .go h i⟩ else ⟨_, _, _, .stop fun c' e => by cases e; exact Nat.lt_of_not_le h⟩
theorem Tk.none {r t u : List dA} {e e' : Nat} (hn : ∀ c, r.head? = some c → e < c.a0) (h : Tk r e t u e') : t = [] ∧ u = r ∧ e' = e := by
  induction h using Tk.casesOn with
  | stop => exact ⟨rfl, rfl, rfl⟩
  | go h => exact absurd h (gn.mpr (hn _ rfl))
theorem tn {pre r : List dA} {c : dA} : ((pre ++ c :: r).map xm)[((pre.length : Nat) : Int).toNat]? = some (xm c) := by
  rw [b8, bR, bp (au _), gT]; rfl
theorem x8 {pre r : List dA} {c : dA} : (pre.length : Int) < (((pre ++ c :: r).map xm).length : Int) := lN (by rw [ac]; exact co (cK _))
section
variable {W : Wd} {n : Nat} {σ : List MO} {Q : VQ} {ls : List Ln} {pre : List dA} {sh : Int}
theorem fn1 {a k : Nat} {r : tK} {mo : MO} {ws ws' : List V} (hW : Wk W) (h : rows.lookup a = some r) (hi : σ[k]? = some mo) (hf : wK 1 mo = true) (hl : ws.length = r.np) (hm : ws.map (mz [k]) = ws') (q : r.b (CallP W n) (ws ++ r.dx ++ ay r.nq .un) [mo] (gM [k] 0 σ Q)) (hr : p9 [k] mo = mo) : CallP W (n + 1) a ws' σ Q :=
  Bm (ws := ws) (σL := [mo]) [k] 0 hW h hl hm (bQ _ _) ⟨hr.symm ▸ hi, trivial⟩ (by rw [ki]; exact Bool.and_eq_true_iff.mpr ⟨hf, rfl⟩) q
theorem pf (hW : Wk W) {k : Nat} {r : List dA} (hi : σ[k]? = some (et ls (pre ++ r) pre.length sh)) (q : Q (.d (tp r)) σ) : CallP W (n + 1) 384 [.hd k] σ Q := by
  rw [← dL hi] at q
  refine fn1 (ws := [.hd 0]) hW rfl hi rfl rfl rfl ?_ rfl
  refine af (.lenL rfl) ?_
  induction r using List.casesOn with
  | nil => exact cy (by rw [ah, ar]) q
  | cons c r => exact cn (yu x8) (aM (.it rfl (av _) tn) q)
theorem xw {Q : FX} {cs : List dA} {r t u : List dA} {e e' : Nat} (h : Tk r e t u e') : ∀ {pre : List dA}, pre ++ r = cs → Q .next [.hd 0, .d (.int e')] [et ls cs (pre.length + t.length) sh] → cW iN iM (t.length + 1) [.hd 0, .d (.int e)] [et ls cs pre.length sh] Q := by
  induction h with
  | @stop r e h =>
    intro pre hp q
    refine af (.lenL rfl) ?_
    induction r using List.casesOn with
    | nil => rw [ar] at hp; subst hp; exact cn (fP (bA _)) (aN rfl q)
    | cons c r => subst hp; exact cy x8 (aM (.it rfl (av _) tn) (cn (eW.mpr (bj.mpr (h c rfl))) (aN rfl q)))
  | @go c r t u e e' h i ih =>
    intro pre hp q
    have hp' : (pre ++ [c]) ++ r = cs := (ag _ _ _).trans hp
    have hn : (pre ++ [c]).length = pre.length + 1 := ac
    rw [ao, ← aZ, Nat.add_right_comm, ← hn] at q
    have := ih hp' q
    rw [hn] at this
    subst hp
    refine af (.lenL rfl) (cy x8 (aM (.it rfl (av _) tn) (cy (bM.mpr h) (a6 rfl (aM (.it rfl (av _) tn) (af (.max _ _) ?_))))))
    rw [← Lean.Omega.Int.ofNat_max]
    exact this
theorem oN (hW : Wk W) {k : Nat} {r t u : List dA} {e e' : Nat} (hi : σ[k]? = some (et ls (pre ++ r) pre.length sh)) (h : Tk r e t u e') (q : Q (.d (.int e')) (σ.set k (et ls (pre ++ r) (pre.length + t.length) sh))) : CallP W (n + 1) 391 [.hd k, .d (.int e)] σ Q :=
  fn1 (ws := [.hd 0, .d (.int e)]) hW rfl hi rfl rfl rfl (iH _ (xw h rfl q)) rfl
noncomputable def uZ (t : List dA) (sh : Int) : Int := match t.getLast? with | some c => (c.b1 : Int) - c.a1 | none => sh
theorem AU (hW : Wk W) {k a : Nat} {cs : List dA} (hi : σ[k]? = some (et ls cs a sh)) (q : Q (.d (.bool false)) σ) : CallP W (n + 1) 398 [.hd k, .d (.int a)] σ Q := by
  rw [← dL hi] at q
  refine fn1 (ws := [.hd 0, .d (.int a)]) hW rfl hi rfl rfl rfl ?_ rfl
  rw [← decide_eq_false (dF (a : Int))] at q
  exact cn (dF _) q
theorem zM (hW : Wk W) {k b : Nat} {u : List dA} {c : dA} (hi : σ[k]? = some (et ls (pre ++ c :: u) (pre.length + 1) sh)) (hb : b ≤ pre.length) (q : Q (.d (.bool true)) (σ.set k (et ls (pre ++ c :: u) (pre.length + 1) ((c.b1 : Int) - c.a1)))) : CallP W (n + 1) 398 [.hd k, .d (.int b)] σ Q := by
  have lt : (b : Int) < ((pre.length + 1 : Nat) : Int) := bj.mpr (cz hb)
  refine fn1 (ws := [.hd 0, .d (.int b)]) hW rfl hi rfl rfl rfl ?_ rfl
  refine cy lt (aM (.it rfl (i := ((pre.length + 1 : Nat) : Int) - 1) (by rw [lA, cP]; exact av _) (by rw [lA, cP]; exact tn)) ?_)
  rw [← decide_eq_true lt] at q
  exact q
theorem wy (hW : Wk W) {k : Nat} {t u : List dA} (hi : σ[k]? = some (et ls (pre ++ (t ++ u)) (pre.length + t.length) sh)) (q : Q (.d (.bool (decide (t ≠ [])))) (σ.set k (et ls (pre ++ (t ++ u)) (pre.length + t.length) (uZ t sh)))) : CallP W (n + 1) 398 [.hd k, .d (.int pre.length)] σ Q := by
  rcases fb t with rfl | ⟨t', c, rfl⟩
  · rw [show uZ [] sh = sh from rfl, dL hi] at q
    exact AU hW hi q
  · have e1 : pre ++ (t'.concat c ++ u) = (pre ++ t') ++ c :: u := by rw [cF, ag, ag]; rfl
    have e2 : pre.length + (t'.concat c).length = (pre ++ t').length + 1 := by rw [List.length_concat, ac]; rfl
    have e3 : uZ (t'.concat c) sh = (c.b1 : Int) - c.a1 := by unfold uZ; rw [cF, iO]
    rw [e1, e2] at hi q
    rw [e3, decide_eq_true (by rw [cF]; exact dG _ nofun)] at q
    exact zM hW hi (by rw [ac]; exact ai _ _) q
end
inductive Fx : List dA → List dA → Nat → List dA → List dA → List dA → List dA → Nat → Prop
  | stop {r1 r2 e t1 t2 u1 u2 d} (a : Tk r1 e t1 u1 d) (b : Tk r2 d t2 u2 e) : Fx r1 r2 e t1 t2 u1 u2 e
  | go {r1 r2 e t1 t2 v1 v2 d e2 t1' t2' u1 u2 e'} (a : Tk r1 e t1 v1 d) (b : Tk r2 d t2 v2 e2) (ne : e2 ≠ e) (i : Fx v1 v2 e2 t1' t2' u1 u2 e') : Fx r1 r2 e (t1 ++ t1') (t2 ++ t2') u1 u2 e'
theorem Tk.same {r u : List dA} {e e' : Nat} (h : Tk r e [] u e') : e' = e := by cases h; rfl
theorem Fx.ex : ∀ (n : Nat) (r1 r2 : List dA) (e : Nat), r1.length + r2.length ≤ n → ∃ t1 t2 u1 u2 e', Fx r1 r2 e t1 t2 u1 u2 e'
  | n, r1, r2, e, hn => by
    obtain ⟨t1, v1, d, a⟩ := Tk.ex r1 e
    obtain ⟨t2, v2, e2, b⟩ := Tk.ex r2 d
    by_cases c : e2 = e
    · subst c; exact ⟨_, _, _, _, _, .stop a b⟩
    have l1 := congrArg dV a.app
    have l2 := congrArg dV b.app
    rw [ac] at l1 l2
    have hp : 0 < t1.length + t2.length := by
      induction t1 using List.casesOn with
      | cons => exact ax (cK _) (ai _ _)
      | nil =>
        induction t2 using List.casesOn with
        | cons => exact ax (cK _) (aK _ _)
        | nil => exact absurd (b.same.trans a.same) c
    induction n using Nat.casesOn with
    | zero => clear a b c; exact (aH (.t .O (.a .A .B) (.i (.a .A .C) .D (.l (.a .D .F) .O (.i (.a .B .G) .F .f)))) rf [_,_,_,_,_,_] [] hp l1 hn l2).elim
    | succ n =>
      obtain ⟨_, _, _, _, _, i⟩ := Fx.ex n v1 v2 e2 (by clear a b c; exact aH (.i (.a .A .B) .C (.l (.a .C .D) (.a .F .I) (.i (.a .G .H) .D (.t .O (.a .A .G) (.p (.a .B .H) .F))))) rf [_,_,_,_,_,_,_] [] l1 hn l2 hp)
      exact ⟨_, _, _, _, _, .go a b c i⟩
theorem Fx.app {r1 r2 t1 t2 u1 u2 : List dA} {e e' : Nat} (h : Fx r1 r2 e t1 t2 u1 u2 e') : r1 = t1 ++ u1 ∧ r2 = t2 ++ u2 := by
  induction h with
  | stop a b => exact ⟨a.app, b.app⟩
  | go a b _ _ ih => exact ⟨by rw [ag, ← ih.1]; exact a.app, by rw [ag, ← ih.2]; exact b.app⟩
structure fk where
  u : String
  b : List Ln
  o : List Ln
  t : List Ln
noncomputable abbrev fU (c : fk) : D := qV c.u c.b c.o c.t
noncomputable def ccK (base l1 l2 : List Ln) (s1 s2 : Int) (low : Nat) (t1 t2 : List dA) (e : Nat) : fk :=
  ⟨lD (decide (t1 ≠ [])) (decide (t2 ≠ [])) (a9 l1 (some ((low : Int) + s1)) (some ((e : Int) + uZ t1 s1))) (a9 l2 (some ((low : Int) + s2)) (some ((e : Int) + uZ t2 s2))), a9 base (some (low : Int)) (some (e : Int)), a9 l1 (some ((low : Int) + s1)) (some ((e : Int) + uZ t1 s1)), a9 l2 (some ((low : Int) + s2)) (some ((e : Int) + uZ t2 s2))⟩
theorem bZ {α β : Type} {f : α → β} {l : List α} {lo hi : Option Int} : a9 (l.map f) lo hi = (a9 l lo hi).map f := by
  unfold a9
  rw [ah, wa, List.map_drop]
section
variable {W : Wd} {n : Nat} {σ : List MO} {Q : VQ} {base l1 l2 : List Ln} {s1 s2 : Int} {p1 p2 c1 c2 : List dA}
theorem fx_loop (hW : Wk W) {v0 v1 v4 v5 v8 v9 v10 v11 : V} {Q : FX} {r1 r2 t1 t2 u1 u2 : List dA} {e e' : Nat} (h : Fx r1 r2 e t1 t2 u1 u2 e') : ∀ {p1 p2 : List dA} {en : Int}, p1 ++ r1 = c1 → p2 ++ r2 = c2 → ¬ en = e →
    Q .next [v0, v1, .hd 0, .hd 1, v4, v5, .d (.int e'), .d (.int e'), v8, v9, v10, v11] [et l1 c1 (p1.length + t1.length) s1, et l2 c2 (p2.length + t2.length) s2] →
    tQ jA (jz (CallP W (n + 1))) [v0, v1, .hd 0, .hd 1, v4, v5, .d (.int en), .d (.int e), v8, v9, v10, v11] [et l1 c1 p1.length s1, et l2 c2 p2.length s2] Q := by
  induction h with
  | @stop r1 r2 e t1 t2 u1 u2 d a b =>
    intro p1 p2 en h1 h2 hn q
    subst h1 h2
    refine ⟨2, ?_⟩
    refine aw (fe (.atom (.int _ _))) (cy hn ?_)
    refine oN hW (k := 0) rfl a ?_
    refine oN hW (k := 1) rfl b ?_
    exact aw (fe (.atom (.int _ _))) (cn (fun h => h rfl) q)
  | @go r1 r2 e t1 t2 v1 v2 d e2 t1' t2' u1 u2 e' a b ne _ ih =>
    intro p1 p2 en h1 h2 hn q
    rw [ac, ac, ← aZ, ← aZ, ← ac (as := p1), ← ac (as := p2)] at q
    obtain ⟨m, hm⟩ := ih (p1 := p1 ++ t1) (p2 := p2 ++ t2) (en := (e : Int)) (by rw [ag, ← a.app]; exact h1) (by rw [ag, ← b.app]; exact h2) (fun h => ne (ly.inj h).symm) q
    rw [ac, ac] at hm
    subst h1 h2
    refine ⟨m + 1, ?_⟩
    refine aw (fe (.atom (.int _ _))) (cy hn ?_)
    refine oN hW (k := 0) rfl a ?_
    exact oN hW (k := 1) rfl b hm
theorem qt (hW : Wk W) {r1 r2 t1 t2 u1 u2 : List dA} {low e k1 k2 : Nat} (F : Fx r1 r2 low t1 t2 u1 u2 e) (h1 : σ[k1]? = some (et l1 (p1 ++ r1) p1.length s1)) (h2 : σ[k2]? = some (et l2 (p2 ++ r2) p2.length s2)) (hne : k1 ≠ k2)
    (q : Q (.d (.tup [fU (ccK base l1 l2 s1 s2 low t1 t2 e), .int e])) ((σ.set k1 (et l1 (p1 ++ r1) (p1.length + t1.length) (uZ t1 s1))).set k2 (et l2 (p2 ++ r2) (p2.length + t2.length) (uZ t2 s2)))) :
    CallP W (n + 3) 419 [.d (c5 base), .d (.int low), .hd k1, .hd k2] σ Q := by
  refine Bm (ws := [.d (c5 base), .d (.int low), .hd 0, .hd 1]) (σL := [et l1 (p1 ++ r1) p1.length s1, et l2 (p2 ++ r2) p2.length s2]) [k1, k2] 0 hW rfl rfl rfl (bt.mpr ⟨fun e => hne (am.mp e), bQ _ _⟩) ⟨h1, h2, trivial⟩ rfl ?_
  refine fx_loop hW F rfl rfl (by exact yu (aH (.Q (.g .I) (.c .A)) rf [_] [])) ?_
  obtain ⟨e1, e2⟩ := F.app
  subst e1 e2
  refine aM (.tup (by decide) rfl) (wy hW (k := 0) (t := t1) (u := u1) rfl ?_)
  refine aM (.tup (by decide) rfl) (wy hW (k := 1) (t := t2) (u := u2) rfl ?_)
  refine aM (.tup (by decide) rfl) (bH (.lst rfl) ?_)
  rw [bZ]
  refine aM (.tup (by decide) rfl) (bH (.lst rfl) ?_)
  rw [bZ]
  refine tU hW (bH (.lst rfl) ?_)
  rw [bZ]
  exact ii hW q
end
noncomputable def tX (r : List dA) : List Int := match r with | c :: _ => [(c.a0 : Int)] | [] => []
noncomputable def zN : List dA → List dA → Option Nat
  | c :: _, d :: _ => some (min c.a0 d.a0)
  | c :: _, [] => some c.a0
  | [], d :: _ => some d.a0
  | [], [] => none
noncomputable def iX (base l1 l2 : List Ln) (s1 s2 : Int) (at_ low : Nat) : List fk :=
  if at_ < low then [⟨"same", a9 base (some (at_ : Int)) (some (low : Int)), a9 l1 (some ((at_ : Int) + s1)) (some ((low : Int) + s1)), a9 l2 (some ((at_ : Int) + s2)) (some ((low : Int) + s2))⟩] else []
theorem p5 {base l1 l2 : List Ln} {s1 s2 : Int} {a b : Nat} : (iX base l1 l2 s1 s2 a b).length ≤ 1 := by unfold iX; split <;> exact aP rfl
inductive Chs (base l1 l2 : List Ln) : List dA → List dA → Int → Int → Nat → List fk → Prop
  | nil {s1 s2 at_} : Chs base l1 l2 [] [] s1 s2 at_ (iX base l1 l2 s1 s2 at_ base.length)
  | cons {r1 r2 s1 s2 at_ low t1 t2 u1 u2 e L} (lo : zN r1 r2 = some low) (F : Fx r1 r2 low t1 t2 u1 u2 e) (i : Chs base l1 l2 u1 u2 (uZ t1 s1) (uZ t2 s2) e L) : Chs base l1 l2 r1 r2 s1 s2 at_ (iX base l1 l2 s1 s2 at_ low ++ ccK base l1 l2 s1 s2 low t1 t2 e :: L)
theorem Tk.some {c : dA} {r t u : List dA} {e e' : Nat} (h : c.a0 ≤ e) (i : Tk (c :: r) e t u e') : t ≠ [] := by
  cases i with
  | stop n => exact absurd h (gn.mpr (n c rfl))
  | go => nofun
theorem Fx.some {r1 r2 t1 t2 u1 u2 : List dA} {low e : Nat} (lo : zN r1 r2 = some low) (h : Fx r1 r2 low t1 t2 u1 u2 e) : 0 < t1.length + t2.length := by
  have key : ∀ {t1 t2 u1 u2 d e}, Tk r1 low t1 u1 d → Tk r2 d t2 u2 e → 0 < t1.length + t2.length := fun {t1 t2 u1 u2 d e} a b => by
    have p1 : t1 ≠ [] → 0 < t1.length + t2.length := fun h => ax (bP.mpr h) (ai _ _)
    have p2 : t2 ≠ [] → 0 < t1.length + t2.length := fun h => ax (bP.mpr h) (aK _ _)
    have ad := a.le
    induction r1 using List.casesOn with
    | nil =>
      induction r2 using List.casesOn with
      | nil => cases lo
      | cons d r2 => cases lo; exact p2 (b.some ad)
    | cons c r1 =>
      induction r2 using List.casesOn with
      | nil => cases lo; exact p1 (a.some (au _))
      | cons d r2 =>
        cases lo
        by_cases h : c.a0 ≤ d.a0
        · exact p1 (a.some (Nat.le_min.mpr ⟨au _, h⟩))
        · exact p2 (b.some (ab (Nat.le_min.mpr ⟨Nat.le_of_not_le h, au _⟩) ad))
  induction h using Fx.casesOn with
  | stop a b => exact key a b
  | go a b => rw [ac, ac]; exact ax (key a b) (aA (ai _ _) (ai _ _))
theorem Chs.ex {base l1 l2 : List Ln} (n : Nat) : ∀ (r1 r2 : List dA) (s1 s2 : Int) (at_ : Nat), r1.length + r2.length ≤ n → ∃ L, Chs base l1 l2 r1 r2 s1 s2 at_ L ∧ L.length ≤ 2 * n + 1 := by
  induction n with
  | zero =>
    intro r1 r2 s1 s2 at_ h
    induction r1 using List.casesOn with
    | cons => exact absurd h (by rw [ao, eU]; exact iT _)
    | nil =>
      induction r2 using List.casesOn with
      | cons => exact absurd h (by rw [ao]; exact iT _)
      | nil => exact ⟨_, .nil, p5⟩
  | succ n ih =>
    intro r1 r2 s1 s2 at_ h
    cases lo : zN r1 r2 with
    | none =>
      induction r1 using List.casesOn with
      | cons => induction r2 using List.casesOn <;> cases lo
      | nil =>
        induction r2 using List.casesOn with
        | cons => cases lo
        | nil => exact ⟨_, .nil, ab p5 (aK 1 _)⟩
    | some low =>
      obtain ⟨t1, t2, u1, u2, e, F⟩ := Fx.ex _ r1 r2 low (au _)
      have hp := F.some lo
      obtain ⟨a1, a2⟩ := F.app
      have b1 := congrArg dV a1
      have b2 := congrArg dV a2
      rw [ac] at b1 b2
      obtain ⟨L, i, hl⟩ := ih u1 u2 (uZ t1 s1) (uZ t2 s2) e (by clear F lo ih; exact aH (.i (.a .A .B) .C (.l (.a .C .D) (.a .F .I) (.i (.a .G .H) .D (.t .O (.a .A .G) (.p (.a .B .H) .F))))) rf [_,_,_,_,_,_,_] [] b1 h b2 hp)
      refine ⟨_, .cons lo F i, ?_⟩
      rw [ac, ao, bq]
      exact aA (aj hl) p5
theorem min_ok {σ : List MO} {y : V} {r1 r2 : List dA} {low : Nat} (lo : zN r1 r2 = some low) (h : cu σ y = some ((tX r1 ++ tX r2).map .int)) : BiR σ .min [y] (.d (.int low)) σ := by
  induction r1 using List.casesOn with
  | nil =>
    induction r2 using List.casesOn with
    | nil => cases lo
    | cons d r2 => cases lo; exact .min1 h
  | cons c r1 =>
    induction r2 using List.casesOn with
    | nil => cases lo; exact .min1 h
    | cons d r2 => cases lo; rw [Lean.Omega.Int.ofNat_min]; exact .min2 h
theorem beg_ne {r1 r2 : List dA} : tX r1 ++ tX r2 = [] ↔ zN r1 r2 = none := by
  induction r1 using List.casesOn with
  | nil =>
    induction r2 using List.casesOn with
    | nil => exact ⟨fun _ => rfl, fun _ => rfl⟩
    | cons d r2 => exact ⟨nofun, nofun⟩
  | cons c r1 => induction r2 using List.casesOn <;> exact ⟨nofun, nofun⟩
theorem BD {cv : List V} {σ : List MO} {Q : VQ} {r1 r2 : List dA} (q : Q (.d (.lst ((tX r1 ++ tX r2).map .int))) σ) : lcP (bd .IsNot (eV 0) (eC .none)) (eV 0) cv Q [tp r1, tp r2] [] σ := by
  induction r1 using List.casesOn with
  | nil =>
    refine aw .ntN (aN rfl ?_)
    induction r2 using List.casesOn with
    | nil => exact aw .ntN (aN rfl q)
    | cons d r2 => exact aw (.ntO (.int _)) (a6 rfl q)
  | cons c r1 =>
    refine aw (.ntO (.int _)) (a6 rfl ?_)
    induction r2 using List.casesOn with
    | nil => exact aw .ntN (aN rfl q)
    | cons d r2 => exact aw (.ntO (.int _)) (a6 rfl q)
section
variable {W : Wd} {n : Nat} {σ : List MO} {base l1 l2 : List Ln} {s1 s2 : Int} {c1 c2 : List dA}
theorem uo (hW : Wk W) {Q : FX} {v3 v8 v10 v11 : V} {a1 a2 at_ low : Nat} {acc : List fk} (hz : acc.length < 16777216)
    (q : ∀ v10, Q .next [.d (c5 base), .d (c5 l1), .d (c5 l2), v3, .hd 0, .hd 1, .hd 2, .d (.int at_), v8, .d (.int low), v10, v11] [et l1 c1 a1 s1, et l2 c2 a2 s2, .list ((acc ++ iX base l1 l2 s1 s2 at_ low).map fU)]) :
    fu (bd .Gt (eV 9) (eV 7)) (tv (CallP W (n + 2))) aq [.d (c5 base), .d (c5 l1), .d (c5 l2), v3, .hd 0, .hd 1, .hd 2, .d (.int at_), v8, .d (.int low), v10, v11] [et l1 c1 a1 s1, et l2 c2 a2 s2, .list (acc.map fU)] Q := by
  unfold iX at q
  by_cases c : at_ < low
  · rw [if_pos c] at q
    refine cy (bj.mpr c) (bH (.lst rfl) ?_)
    rw [bZ]
    refine bH (.lst rfl) ?_
    rw [bZ]
    refine bH (.lst rfl) ?_
    rw [bZ]
    refine ii hW (af (.append rfl (by rw [ah]; exact hz)) ?_)
    rw [aB] at q
    exact q _
  · rw [if_neg c, ar] at q
    exact cn (fun h => c (bj.mp h)) (q _)
end
section
variable {W : Wd} {n : Nat} {σ : List MO} {base l1 l2 : List Ln} {c1 c2 : List dA}
theorem Bv (hW : Wk W) {v3 : V} {Q : FX} {r1 r2 : List dA} {s1 s2 : Int} {at_ : Nat} {L : List fk} (h : Chs base l1 l2 r1 r2 s1 s2 at_ L) : ∀ {p1 p2 : List dA} {acc : List fk} {v8 v9 v10 v11 : V} {m : Nat}, L.length < m → p1 ++ r1 = c1 → p2 ++ r2 = c2 → acc.length + L.length ≤ 16777215 →
    (∀ ρ τ, Q (.ret (.lst ((acc ++ L).map fU))) ρ τ) →
    cW tw (tu (CallP W (n + 3))) m [.d (c5 base), .d (c5 l1), .d (c5 l2), v3, .hd 0, .hd 1, .hd 2, .d (.int at_), v8, v9, v10, v11] [et l1 c1 p1.length s1, et l2 c2 p2.length s2, .list (acc.map fU)] Q := by
  induction h with
  | @nil s1 s2 at_ =>
    intro p1 p2 acc v8 v9 v10 v11 m hm h1 h2 hz q
    induction m using Nat.casesOn with
    | zero => exact absurd hm (gc _)
    | succ m =>
    subst h1 h2
    refine a6 rfl ?_
    refine pf hW (k := 0) (r := []) rfl (pf hW (k := 1) (r := []) rfl ?_)
    refine i6 (d := .tup [tp [], tp []]) (ds := [tp [], tp []]) rfl (by decide) (BD (r1 := []) (r2 := []) ?_)
    refine af (.d rfl) (aw (fe (dR rfl)) (cn (fun h => h rfl) (af (.lenL rfl) ?_)))
    rw [ah]
    refine uo hW (cz (aG hz)) fun v10 => ?_
    exact af (.d rfl) (aw (.eq (dR rfl)) (cy rfl (q _ _)))
  | @cons r1 r2 s1 s2 at_ low t1 t2 u1 u2 e L lo F _ ih =>
    intro p1 p2 acc v8 v9 v10 v11 m hm h1 h2 hz q
    induction m using Nat.casesOn with
    | zero => exact absurd hm (gc _)
    | succ m =>
    have hb : ¬ (tX r1 ++ tX r2).map D.int = [] := fun e => by rw [beg_ne.mp (map_nil'.mp e)] at lo; cases lo
    obtain ⟨a1, a2⟩ := F.app
    have hz2 : (acc ++ iX base l1 l2 s1 s2 at_ low).length < 16777216 := by
      rw [ac] at hz ⊢
      exact cz (ab (ai _ _) (aZ _ _ _ ▸ hz))
    have next := fun v10 => ih (p1 := p1 ++ t1) (p2 := p2 ++ t2) (acc := acc ++ iX base l1 l2 s1 s2 at_ low ++ [ccK base l1 l2 s1 s2 low t1 t2 e]) (v8 := .d (.lst ((tX r1 ++ tX r2).map .int))) (v9 := .d (.int low)) (v10 := v10) (v11 := .d (fU (ccK base l1 l2 s1 s2 low t1 t2 e))) (m := m) (ax (bw _) (dY (aL (by rw [ac]; exact aK _ _) hm))) (by rw [ag, ← a1]; exact h1) (by rw [ag, ← a2]; exact h2) (by rw [← ac] at hz ⊢; rw [ag, ag]; exact hz) (by rw [ag, ag]; exact q)
    rw [ac, ac, aB (f := fU)] at next
    refine a6 rfl ?_
    subst h1 h2
    refine pf hW (k := 0) rfl (pf hW (k := 1) rfl ?_)
    refine i6 (d := .tup [tp r1, tp r2]) (ds := [tp r1, tp r2]) rfl (aP rfl) (BD ?_)
    refine af (.d rfl) (aw (fe (dR rfl)) (cy hb (af (min_ok lo rfl) ?_)))
    refine uo hW (cz (aG hz)) fun v10 => ?_
    refine af (.d rfl) (aw (.eq (dR rfl)) (cn hb ?_))
    refine qt hW F (k1 := 0) (k2 := 1) rfl rfl (by decide) ?_
    exact af (.append rfl (by rw [ah]; exact hz2)) (next v10)
theorem zZ (hW : Wk W) {Q : VQ} (h1 : base.length + l1.length ≤ 1000) (h2 : base.length + l2.length ≤ 1000)
    (q : ∀ c1 c2 L, LDiff base l1 c1 → LDiff base l2 c2 → Chs base l1 l2 c1 c2 0 0 0 L → L.length ≤ 2 * (c1.length + c2.length) + 1 → Q (.d (.lst (L.map fU))) σ) : CallP W (n + 7) 425 [.d (c5 base), .d (c5 l1), .d (c5 l2), .d (.str "myers")] σ Q := by
  refine nD hW (ws := [.d (c5 base), .d (c5 l1), .d (c5 l2), .d (.str "myers")]) rfl rfl rfl ?_
  refine BC hW h1 fun c1 d1 z1 => pR hW ?_
  refine BC hW h2 fun c2 d2 z2 => pR hW ?_
  refine af (.hd rfl) ?_
  obtain ⟨L, C, hL⟩ := Chs.ex (base := base) (l1 := l1) (l2 := l2) (c1.length + c2.length) c1 c2 0 0 0 (au _)
  refine iH (L.length + 1) ?_
  exact Bv hW C (p1 := []) (p2 := []) (acc := []) (bw _) rfl rfl (ab (aW (aS _)) (ab hL (ab (aj (a5 2 (aA z1 z2))) (by decide)))) fun ρ τ => q c1 c2 L d1 d2 C hL
end
theorem Dfs.count {α : Type} {A B : List α} {cs : List dA} {i j : Nat} (h : Dfs A B cs i j) : cs.length ≤ i + 1 ∧ (sU cs i → cs.length ≤ i) := by
  induction h with
  | nil => exact ⟨aY _, fun _ => au _⟩
  | step _ _ _ ih => exact ⟨bg ih.1, fun _ => ih.1⟩
  | @chg cs i j i' j' _ lo li _ _ _ _ ih =>
    have := ab (ih.2 lo) li
    rw [ac]
    refine ⟨aj this, fun h => ?_⟩
    have h := h ⟨i, i', j, j'⟩ (by rw [nN]; rfl)
    exact absurd h (bA _)
theorem Dfs.same {α : Type} {A B : List α} {i j : Nat} {cs : List dA} (e : cs = []) (h : Dfs A B cs i j) : i = j ∧ A.take i = B.take j := by
  induction h with
  | nil => exact ⟨rfl, rfl⟩
  | step _ h1 h2 ih =>
    obtain ⟨e1, e2⟩ := ih e
    subst e1
    exact ⟨rfl, by rw [List.take_add_one, List.take_add_one, e2, h1, h2]⟩
  | chg => exact absurd e (dG _ nofun)
theorem LDiff.same {la lb : List Ln} (h : LDiff la lb []) : la = lb := by
  have := (h.dfs.same rfl).2
  rwa [r8, r8] at this
theorem zy {α : Type} {l : List α} {lo hi : Option Int} {x : α} (h : x ∈ a9 l lo hi) : x ∈ l := zo (nM h)
theorem LsOk.slice {l : List Ln} (h : LsOk l) {lo hi : Option Int} : LsOk (a9 l lo hi) := ⟨ab (nY _ _ _) h.n, fun x m => h.x x (zy m)⟩
theorem LsOk.nil : LsOk [] := ⟨aY _, nofun⟩
structure CkLs (p : fk) : Prop where
  b : LsOk p.b
  o : LsOk p.o
  t : LsOk p.t
noncomputable abbrev yT (p : fk) : Prop := p.u = "conflict"
theorem fc {α : Type} {P : α → Prop} {l : List α} {x : α} (h : ∀ y ∈ l, P y) (hx : P x) : ∀ y ∈ l ++ [x], P y := fun y m => (bk.mp m).elim (h y) fun m => am.mp m ▸ hx
section
variable {W : Wd} {n : Nat} {σ : List MO} {c : fk}
theorem zJ (hW : Wk W) {Q : FX} {v0 v1 e5 e6 : V} {at_ : Nat} {ch : dA} {acc : List fk} (ho : LsOk c.o) (ht : LsOk c.t) (ok : ∀ p ∈ acc, CkLs p) (hz : acc.length ≤ 122)
    (q : ∀ (R : List fk) e5 e6, R.length ≤ acc.length + 2 → (∀ p ∈ R, CkLs p) → (∃ p ∈ R, yT p) → Q .next [.d (fU c), v1, .hd 0, .d (.int ch.a1), .d (xm ch), e5, e6] [.list (R.map fU)]) :
    fH (CallP W (n + 2)) [.d (fU c), v1, .hd 0, .d (.int at_), .d (xm ch), e5, e6] [.list (acc.map fU)] Q := by
  have main : ∀ (acc : List fk) e5, acc.length ≤ 123 → (∀ p ∈ acc, CkLs p) → (∀ (R : List fk) e5 e6, R.length ≤ acc.length + 1 → (∀ p ∈ R, CkLs p) → (∃ p ∈ R, yT p) → Q .next [.d (fU c), v1, .hd 0, .d (.int ch.a1), .d (xm ch), e5, e6] [.list (R.map fU)]) → gZ (iK (CallP W (n + 2))) Q .next [.d (fU c), v1, .hd 0, .d (.int at_), .d (xm ch), e5, e6] [.list (acc.map fU)] := fun acc e5 hz ok q => by
    refine bH (.lst rfl) ?_
    rw [bZ]
    refine af (.d rfl) (bH (.lst rfl) ?_)
    rw [bZ]
    refine ii hW (af (.append rfl (by rw [ah]; exact aL hz (by decide))) ?_)
    have := q (acc ++ [⟨"conflict", [], a9 c.o (some (ch.a0 : Int)) (some (ch.a1 : Int)), a9 c.t (some (ch.b0 : Int)) (some (ch.b1 : Int))⟩]) e5 (.d (c5 (a9 c.o (some (ch.a0 : Int)) (some (ch.a1 : Int))))) (aW ac) (fc ok ⟨.nil, ho.slice, ht.slice⟩) ⟨_, aR _ (.head _), show (_ : String) = _ from rfl⟩
    rw [aB] at this
    exact this
  by_cases h : at_ < ch.a0
  · refine cy (bj.mpr h) (bH (.lst rfl) ?_)
    rw [bZ]
    refine af (.d rfl) (ii hW (af (.append rfl (by rw [ah]; exact aL hz (by decide))) ?_))
    have := main (acc ++ [⟨"both", [], a9 c.o (some (at_ : Int)) (some (ch.a0 : Int)), a9 c.o (some (at_ : Int)) (some (ch.a0 : Int))⟩]) (.d (c5 (a9 c.o (some (at_ : Int)) (some (ch.a0 : Int))))) (by rw [ac]; exact aj hz) (fc ok ⟨.nil, ho.slice, ho.slice⟩) fun R e5 e6 hr => q R e5 e6 (ab hr (by rw [ac]; exact au _))
    rw [aB] at this
    exact this
  · exact cn (fun q => h (bj.mp q)) (main acc e5 (bg hz) ok fun R e5 e6 hr => q R e5 e6 (bg hr))
theorem ut (hW : Wk W) {Q : FX} {v1 : V} (ho : LsOk c.o) (ht : LsOk c.t) : ∀ (cs : List dA) {acc : List fk} {at_ : Nat} {e4 e5 e6 : V}, (∀ p ∈ acc, CkLs p) → acc.length + 2 * cs.length ≤ 122 → ((∃ p ∈ acc, yT p) ∨ cs ≠ []) →
    (∀ (R : List fk) at_ e4 e5 e6, R.length ≤ 122 → (∀ p ∈ R, CkLs p) → (∃ p ∈ R, yT p) → Q .next [.d (fU c), v1, .hd 0, .d (.int (at_ : Nat)), e4, e5, e6] [.list (R.map fU)]) →
    gl (fH (CallP W (n + 2))) 4 (cs.map xm) [.d (fU c), v1, .hd 0, .d (.int at_), e4, e5, e6] [.list (acc.map fU)] Q
  | [], acc, at_, e4, e5, e6, ok, hz, he, q => q acc at_ e4 e5 e6 hz ok (he.resolve_right fun h => h rfl)
  | ch :: cs, acc, at_, e4, e5, e6, ok, hz, he, q =>
    zJ hW (v0 := v1) ho ht ok (aG hz) fun R e5 e6 hr ok he => ut hW ho ht cs ok (ab (aC hr _) (by rw [aZ, bq 2]; exact hz)) (.inl he) q
theorem oh (hW : Wk W) {Q : VQ} (ho : LsOk c.o) (ht : LsOk c.t) (ne : c.o ≠ c.t) (q : ∀ (R : List fk), R.length ≤ 123 → (∀ p ∈ R, CkLs p) → (∃ p ∈ R, yT p) → Q (.d (.lst (R.map fU))) σ) : CallP W (n + 7) 432 [.d (fU c), .d (.str "myers")] σ Q := by
  refine nD hW (ws := [.d (fU c), .d (.str "myers")]) rfl rfl rfl ?_
  refine af (.hd rfl) (BC hW (ab (aA ho.n ht.n) (by decide)) fun cs ld _ => ?_)
  refine ef (d := .lst _) rfl (ut hW ho ht cs (acc := []) (at_ := 0) nofun ?_ (.inr fun e => ?_) fun R at_ e4 e5 e6 hr ok he => ?_)
  · exact ab (aW (aS _)) (a5 2 (ab ld.dfs.count.1 (aj ho.n)))
  · subst e; exact ne ld.same
  · refine af (.lenL rfl) ?_
    by_cases h : at_ < c.o.length
    · refine cy (lN h) (af (.d rfl) (bH (.lst rfl) ?_))
      rw [bZ]
      refine bH (.lst rfl) ?_
      rw [bZ]
      refine ii hW (af (.append rfl (by rw [ah]; exact aL hr (by decide))) ?_)
      have := q (R ++ [⟨"both", [], a9 c.o (some (at_ : Int)) none, a9 c.o (some (at_ : Int)) none⟩]) (by rw [ac]; exact aj hr) (fc ok ⟨.nil, ho.slice, ho.slice⟩) (have ⟨p, m, h⟩ := he; ⟨p, ba _ m, h⟩)
      rw [aB] at this
      exact this
    · exact cn (fP h) (q R (bg hr) ok he)
end
noncomputable def di (p : fk) : List Ln := p.b ++ p.o ++ p.t
noncomputable def SZ : List fk → Nat
  | [] => 0
  | p :: r => (di p).length + 3 + SZ r
theorem je : ∀ {a b : List fk}, SZ (a ++ b) = SZ a + SZ b
  | [], _ => (aS _).symm
  | x :: a, b => (congrArg _ je).trans (aZ _ _ _).symm
theorem SZ_cons {p : fk} {r : List fk} : SZ (p :: r) = (di p).length + 3 + SZ r := rfl
theorem oG {p : fk} : SZ [p] = (di p).length + 3 := rfl
theorem vW : ∀ {l : List fk}, l.length ≤ SZ l
  | [] => au _
  | x :: l => ab (aj vW) (ab (aW (bq _ 1)) (aC (Nat.le_add_left_of_le (by decide)) _))
noncomputable def CkX (p : fk) : Prop := ∀ x ∈ di p, x.length ≤ 64
noncomputable def o3 (x y : fk) : fk := ⟨"conflict", x.b ++ y.b, x.o ++ y.o, x.t ++ y.t⟩
theorem eA {p : fk} : (di p).length = p.b.length + p.o.length + p.t.length := by unfold di; rw [ac, ac]
theorem sV {x y : fk} : (di (o3 x y)).length = (di x).length + (di y).length := by
  rw [eA, eA, eA]
  show (x.b ++ y.b).length + (x.o ++ y.o).length + (x.t ++ y.t).length = _
  rw [ac, ac, ac]; exact aH (.o (.a (.a (.a .A .B) (.a .C .D)) (.a .F .G)) (.a (.a (.a .A .C) .F) (.a (.a .B .D) .G))) rf [_,_,_,_,_,_] []
theorem CkX.join {x y : fk} (hx : CkX x) (hy : CkX y) : CkX (o3 x y) := fun z hz => by
  have key : z ∈ di x ∨ z ∈ di y := by
    unfold di o3 at *
    rcases bk.mp hz with h | h
    · rcases bk.mp h with h | h
      · exact (bk.mp h).imp (fun h => ba _ (ba _ h)) fun h => ba _ (ba _ h)
      · exact (bk.mp h).imp (fun h => ba _ (aR _ h)) fun h => ba _ (aR _ h)
    · exact (bk.mp h).imp (fun h => aR _ h) fun h => aR _ h
  exact key.elim (hx z) (hy z)
structure Clo (ps R : List fk) : Prop where
  same : (∀ p ∈ ps, ¬ yT p) → R = ps
  some_ : (∃ p ∈ ps, yT p) → ∃ p ∈ R, yT p
  size : SZ R ≤ SZ ps
  ln : ∀ p ∈ R, CkX p
theorem Clo.nil : Clo [] [] := ⟨fun _ => rfl, fun ⟨_, h, _⟩ => (nomatch h), au _, nofun⟩
theorem Clo.snoc {ps R : List fk} {p : fk} (h : Clo ps R) (hp : CkX p) : Clo (ps ++ [p]) (R ++ [p]) where
  same a := by rw [h.same fun y hy => a y (ba _ hy)]
  some_ := fun ⟨y, hy, hu⟩ => (bk.mp hy).elim (fun hy => have ⟨z, hz, hu⟩ := h.some_ ⟨y, hy, hu⟩; ⟨z, ba _ hz, hu⟩) fun hy => ⟨y, aR _ hy, hu⟩
  size := by rw [je, je]; exact aC h.size _
  ln := fc h.ln hp
theorem qB {α : Type} {j : List α} {x : α} : (j ++ [x])[j.length]? = some x := uh
theorem iU {j : List MO} {l : List D} : cu (j ++ [.list l]) (.hd j.length) = some l := by
  show ((j ++ [MO.list l])[j.length]?).bind xV = _
  rw [qB]; rfl
theorem vC {j : List MO} {l : List D} : bmOk .append (j ++ [.list l]) (.hd j.length) = true := congrArg oH iU
section
variable {W : Wd} {n : Nat} {σ : List MO}
theorem uy (hW : Wk W) {Q : VQ} {x y : fk} (h : (di x).length + (di y).length ≤ 16777216) (q : Q (.d (fU (o3 x y))) σ) : CallP W (n + 3) 349 [.d (fU x), .d (fU y)] σ Q := by
  rw [eA, eA] at h
  have z : ∀ {a b : List Ln}, a.length ≤ x.b.length + x.o.length + x.t.length → b.length ≤ y.b.length + y.o.length + y.t.length → (a.map D.bytes).length + (b.map D.bytes).length ≤ 16777216 := fun ha hb => by rw [ah, ah]; exact ab (aA ha hb) h
  refine nD hW (ws := [.d (fU x), .d (fU y)]) rfl rfl rfl ?_
  refine af (.addL rfl rfl (z (ab (ai _ _) (ai _ _)) (ab (ai _ _) (ai _ _)))) ?_
  refine af (.addL rfl rfl (z (ab (aK _ _) (ai _ _)) (ab (aK _ _) (ai _ _)))) ?_
  refine af (.addL rfl rfl (z (aK _ _) (aK _ _))) ?_
  rw [← aB, ← aB, ← aB]
  exact ii hW q
theorem uE (hW : Wk W) {Q : FX} {v0 v1 v2 v3 v4 : V} : ∀ (l : List fk) {x : fk} {e6 : V}, (di x).length + SZ l ≤ 1000000 → CkX x → (∀ p ∈ l, CkX p) → (∀ x' e6, (di x').length ≤ (di x).length + SZ l → CkX x' → Q .next [v0, v1, v2, v3, v4, .d (fU x'), e6] σ) →
    gl (fV (CallP W (n + 3))) 6 (l.map fU) [v0, v1, v2, v3, v4, .d (fU x), e6] σ Q
  | [], x, e6, _, hx, _, q => q x e6 (au _) hx
  | y :: l, x, e6, hz, hx, hl, q => by
    have e : (di x).length + SZ (y :: l) = (di (o3 x y)).length + SZ l + 3 := by rw [sV]; show _ + (_ + 3 + SZ l) = _; exact aH (.o (.a .A (.a (.a .B (.n 3)) .C)) (.a (.a (.a .A .B) .C) (.n 3))) rf [_,_,_] []
    rw [e] at hz q
    refine uy hW (x := x) (y := y) ?_ (uE hW l (aG hz) (hx.join (hl y (.head _))) (fun p m => hl p (.tail _ m)) fun x' e6 h => q x' e6 (bL h))
    rw [← sV]; exact ab (ai _ _) (ab (aG hz) (by decide))
inductive LastR (F : List fk) : V → Prop
  | none : LastR F (.d .none)
  | some {i : Nat} (h : i < F.length) : LastR F (.d (.int i))
theorem LastR.snoc {F : List fk} {p : fk} {v : V} (h : LastR F v) : LastR (F ++ [p]) v := by
  induction h using LastR.casesOn with
  | none => exact .none
  | some h => exact .some (by rw [ac]; exact fo h)
theorem ck_at {pre post : List fk} {x : fk} : ((pre ++ x :: post).map fU)[((pre.length : Nat) : Int).toNat]? = some (fU x) := by
  rw [b8, bR, bp (au _), gT]; rfl
theorem AW {α : Type} {pre post : List α} {x : α} : (pre ++ x :: post).drop (pre.length + 1) = post := by
  rw [List.drop_append, lC (bO _), cQ]; rfl
theorem Clo.close {ps pre post : List fk} {p x x' : fk} (h : Clo ps (pre ++ x :: post)) (hp : yT p) (hl : (di x').length ≤ (di x).length + SZ post) (hx : CkX (o3 x' p)) : Clo (ps ++ [p]) (pre ++ [o3 x' p]) where
  same a := absurd hp (a p (aR _ (.head _)))
  some_ _ := ⟨_, aR _ (.head _), show (_ : String) = _ from rfl⟩
  size := by
    have := h.size
    rw [je, SZ_cons] at this
    rw [je, oG, je, oG, sV]
    clear hx hp h; exact aH (.l .A (.a .B .C) (.l (.a .D (.a (.a .B (.n 3)) .C)) .F (.p (.a .D (.a (.a .A .G) (.n 3))) (.a .F (.a .G (.n 3)))))) rf [_,_,_,_,_,_] [] hl this
  ln := fc (fun y m => h.ln y (ba _ m)) hx
theorem cl_step (hW : Wk W) {Q : FX} {v0 v5 v6 last : V} {many : Int} {p : fk} {ps F : List fk} {j : List MO} (clo : Clo ps F) (lst : LastR F last) (hp : CkX p) (hz : SZ F + SZ [p] ≤ 1000000)
    (q : ∀ F j last many v5 v6, Clo (ps ++ [p]) F → LastR F last → Q .next [v0, .hd (dV j), last, .d (.int many), .d (fU p), v5, v6] (j ++ [.list (F.map fU)])) :
    ej (CallP W (n + 3)) [v0, .hd j.length, last, .d (.int many), .d (fU p), v5, v6] (j ++ [.list (F.map fU)]) Q := by
  have hF : (F.map fU).length < 16777216 := by rw [ah]; exact aL (ab vW (aG hz)) (by decide)
  refine aw (fe (.atom uO)) ?_
  by_cases hu : p.u = "conflict"
  · refine cn (fun h => h hu) ?_
    have new : (an (dM [2, 3] (ae (gw .len (ae (eV 1) ak)) (ae (eC (.int 0)) ak))) (an (iY (fC .append (eV 1) (ae (eV 4) ak))) aq)) [v0, .hd j.length, last, .d (.int many), .d (fU p), v5, v6] (j ++ [.list (F.map fU)]) (gZ aq (gZ aq Q)) := by
      refine af (.lenL iU) ?_
      rw [ah]
      refine oj vC (af (.append qB hF) ?_)
      rw [set_last]
      have := q (F ++ [p]) j (.d (.int F.length)) 0 v5 v6 (clo.snoc hp) (.some (by rw [ac]; exact bw _))
      rw [aB] at this
      exact this
    induction lst using LastR.casesOn with
    | none => exact aw .ntN (aN rfl (aN rfl new))
    | @some i h =>
      refine aw (.ntO (.int _)) (a6 rfl ?_)
      by_cases c : many ≤ 3
      · refine cy c (a6 rfl ?_)
        clear new
        obtain ⟨pre, x, post, rfl, rfl⟩ : ∃ pre x post, F = pre ++ x :: post ∧ pre.length = i := ⟨F.take i, F[i], F.drop (i + 1), by rw [← dP h, mv], List.length_take_of_le (gU h)⟩
        have hF' : ∀ p ∈ pre ++ x :: post, CkX p := clo.ln
        have hs : SZ (pre ++ x :: post) = SZ pre + ((di x).length + 3 + SZ post) := je
        refine aM (.it iU (av _) ck_at) (bH (.lst iU) ?_)
        rw [bZ, show ((pre.length : Nat) : Int) + 1 = ((pre.length + 1 : Nat) : Int) from rfl, kj, AW]
        refine ef (d := .lst _) rfl (uE hW post (x := x) (by rw [hs] at hz; clear hF; exact aH (.l (.a (.a .A (.a (.a .B (.n 3)) .C)) .D) (.n 1000000) (.p (.a .B .C) (.n 1000000))) rf [_,_,_,_] [] hz) (hF' x (aR _ (.head _))) (fun p m => hF' p (aR _ (.tail _ m))) fun x' e6 hl hx => ?_)
        have hsz : (di x').length + (di p).length + SZ pre ≤ 1000000 := by rw [hs, oG] at hz; clear hF; exact aH (.l (.a (.a .A (.a (.a .B (.n 3)) .C)) (.a .D (.n 3))) (.n 1000000) (.l .F (.a .B .C) (.p (.a (.a .F .D) .A) (.n 1000000)))) rf [_,_,_,_,_] [] hz hl
        refine bH (.lst iU) ?_
        rw [bZ, ez, nJ]
        refine uy hW (x := x') (y := p) (ab (aG hsz) (by decide)) (af (.d rfl) (af (.addH rfl rfl ?_) ?_))
        · rw [ah]; exact ab (aj (ab vW (ab (aK _ _) hsz))) (by decide)
        · have := q (pre ++ [o3 x' p]) (j ++ [.list ((pre ++ x :: post).map fU)]) (.d (.int pre.length)) 0 (.d (fU x')) e6 (clo.close hu hl (hx.join hp)) (.some (by rw [ac]; exact bw _))
          rw [aB (l₁ := pre) (l₂ := [o3 x' p])] at this
          exact this
      · exact cn c (aN rfl new)
  · refine cy hu (oj vC (af (.append qB hF) ?_))
    rw [set_last]
    refine af (.lenL rfl) (aw (.mem (.ss p.u ["ours", "theirs"])) ?_)
    have clo' := clo.snoc hp
    have fin := fun last l => q (F ++ [p]) j last (many + ((p.o.map D.bytes).length : Nat)) v5 v6 clo' l
    rw [aB] at fin
    cases ha : ([("ours" : String), "theirs"] : List String).any (· == p.u) with
    | true => exact a6 rfl (fin (.d .none) .none)
    | false => exact aN rfl (fin last lst.snoc)
theorem y6 (hW : Wk W) {Q : FX} {v0 : V} : ∀ (rest : List fk) {ps F : List fk} {j : List MO} {last : V} {many : Int} {v4 v5 v6 : V}, Clo ps F → LastR F last → SZ (ps ++ rest) ≤ 1000000 → (∀ p ∈ rest, CkX p) →
    (∀ F j last many v4 v5 v6, Clo (ps ++ rest) F → Q .next [v0, .hd (dV j), last, .d (.int many), v4, v5, v6] (j ++ [.list (F.map fU)])) →
    gl (ej (CallP W (n + 3))) 4 (rest.map fU) [v0, .hd j.length, last, .d (.int many), v4, v5, v6] (j ++ [.list (F.map fU)]) Q
  | [], ps, F, j, last, many, v4, v5, v6, clo, lst, _, _, q => q F j last many v4 v5 v6 (by rw [ar]; exact clo)
  | p :: rest, ps, F, j, last, many, v4, v5, v6, clo, lst, hz, hp, q => by
    have e : (ps ++ [p]) ++ rest = ps ++ p :: rest := by rw [ag]; rfl
    rw [← e] at hz q
    refine cl_step hW clo lst (hp p (.head _)) ?_ fun F j last many v5 v6 clo lst => y6 hW rest clo lst hz (fun p m => hp p (.tail _ m)) q
    rw [je, je] at hz
    exact ab (aC clo.size _) (aG hz)
theorem vK (hW : Wk W) {Q : VQ} {ps : List fk} (hz : SZ ps ≤ 1000000) (hp : ∀ p ∈ ps, CkX p) (q : ∀ R, Clo ps R → Q (.d (.lst (R.map fU))) σ) : CallP W (n + 4) 446 [.d (.lst (ps.map fU))] σ Q := by
  refine nD hW (ws := [.d (.lst (ps.map fU))]) rfl rfl rfl ?_
  refine af (.hd rfl) (ef (d := .lst _) rfl (y6 hW ps (ps := []) (F := []) (j := []) .nil .none hz hp fun F j last many v4 v5 v6 clo => ?_))
  exact iz qB (q F clo)
end
noncomputable def kM : List fk → Nat
  | [] => 0
  | p :: r => (if p.u = "conflict" then 1 else 0) + kM r
theorem ky : ∀ {a b : List fk}, kM (a ++ b) = kM a + kM b
  | [], _ => (aS _).symm
  | x :: a, b => (congrArg _ ky).trans (aZ _ _ _).symm
theorem ei {p : fk} {r : List fk} : kM (p :: r) = (if p.u = "conflict" then 1 else 0) + kM r := rfl
theorem cnt_zero : ∀ {l : List fk}, kM l = 0 ↔ ∀ p ∈ l, ¬ yT p
  | [] => ⟨fun _ => nofun, fun _ => rfl⟩
  | p :: r => by
    rw [ei]
    by_cases h : p.u = "conflict"
    · rw [if_pos h]; exact ⟨fun e => (nomatch (jg.mp e).1), fun a => (a p (.head _) h).elim⟩
    · rw [if_neg h, aS, cnt_zero]
      exact ⟨fun a y m => by cases m with | head => exact h | tail _ m => exact a y m, fun a y m => a y (.tail _ m)⟩
theorem cnt_pos {l : List fk} (h : kM l ≠ 0) : ∃ p ∈ l, yT p := Classical.byContradiction fun n => h (cnt_zero.mpr fun p m c => n ⟨p, m, c⟩)
noncomputable def vI (l : List fk) : Nat := 22326 * kM l + 183 * l.length
theorem CkLs.size {p : fk} (h : CkLs p) : SZ [p] ≤ 183 := by
  rw [oG, eA]; exact aC (aA (aA h.b.n h.o.n) h.t.n) 3
theorem CkLs.x {p : fk} (h : CkLs p) : CkX p := fun x hx => by
  rcases bk.mp hx with hx | hx
  · exact (bk.mp hx).elim (h.b.x x) (h.o.x x)
  · exact h.t.x x hx
theorem SZ_le : ∀ {l : List fk}, (∀ p ∈ l, CkLs p) → SZ l ≤ l.length * 183
  | [], _ => aY _
  | p :: r, h => by
    rw [ao, jo, bq]
    exact aA (h p (.head _)).size (SZ_le fun p m => h p (.tail _ m))
structure Prt (l ps : List fk) : Prop where
  same : kM l = 0 → ps = l
  some_ : kM l ≠ 0 → kM ps ≠ 0
  ln : ∀ p ∈ ps, CkX p
theorem Prt.snoc {l ps R : List fk} {p : fk} (h : Prt l ps) (e : kM [p] = 0 → R = [p]) (e' : kM [p] ≠ 0 → kM R ≠ 0) (hR : ∀ p ∈ R, CkX p) : Prt (l ++ [p]) (ps ++ R) where
  same c := by rw [ky] at c; have ⟨a, b⟩ := jg.mp c; rw [h.same a, e b]
  some_ c := by
    rw [ky] at c ⊢
    exact fun z => have ⟨a, b⟩ := jg.mp z; c (by rw [Classical.byContradiction fun n => h.some_ n a, Classical.byContradiction fun n => e' n b])
  ln y m := (bk.mp m).elim (h.ln y) (hR y)
section
variable {W : Wd} {n : Nat} {σ : List MO}
theorem qI (hW : Wk W) {Q : FX} {v0 : V} {K : Nat} (hK : K ≤ 1000000) : ∀ (rest : List fk) {l ps : List fk} {e4 : V}, Prt l ps → SZ ps + vI rest ≤ K → (∀ p ∈ rest, CkLs p) → (∀ p ∈ rest, yT p → p.o ≠ p.t) →
    (∀ ps e4, Prt (l ++ rest) ps → SZ ps ≤ K → Q .next [v0, .d (.str "merge"), .d (.str "myers"), .hd 0, e4] [.list (ps.map fU)]) →
    gl (fD (CallP W (n + 7))) 4 (rest.map fU) [v0, .d (.str "merge"), .d (.str "myers"), .hd 0, e4] [.list (ps.map fU)] Q
  | [], l, ps, e4, prt, hz, _, _, q => q ps e4 (by rw [ar]; exact prt) hz
  | p :: rest, l, ps, e4, prt, hz, ok, ne, q => by
    have e : (l ++ [p]) ++ rest = l ++ p :: rest := by rw [ag]; rfl
    rw [← e] at q
    have hF : ps.length ≤ 1000000 := ab vW (ab (aG hz) hK)
    have next : ∀ R, (kM [p] = 0 → R = [p]) → (kM [p] ≠ 0 → kM R ≠ 0) → (∀ p ∈ R, CkX p) → SZ R + vI rest ≤ vI (p :: rest) → gl (fD (CallP W (n + 7))) 4 (rest.map fU) [v0, .d (.str "merge"), .d (.str "myers"), .hd 0, .d (fU p)] [.list (ps.map fU ++ R.map fU)] Q := fun R a b c d => by
      have := qI hW hK rest (e4 := .d (fU p)) (prt.snoc a b c) (by rw [je, aZ]; exact ab (br d _) hz) (fun p m => ok p (.tail _ m)) (fun p m => ne p (.tail _ m)) q
      rw [aB] at this
      exact this
    have okp := ok p (.head _)
    refine aw (fe (.atom uO)) ?_
    by_cases hu : p.u = "conflict"
    · have h1 : kM [p] = 1 := by rw [ei, if_pos hu]; rfl
      refine cn (fun h => h hu) (aw (.eq (.atom (.str _ _))) (aN (by decide) (aN rfl (aw (.eq (.atom (.str _ _))) (aN (by decide) ?_)))))
      refine oh hW okp.o okp.t (ne p (.head _) hu) fun R hr hok he => af (.extend rfl rfl ?_) (next R (fun e => nomatch h1.symm.trans e) (fun _ e => have ⟨y, m, h⟩ := he; cnt_zero.mp e y m h) (fun y m => (hok y m).x) ?_)
      · rw [ah, ah]; exact ab (aA hF hr) (by decide)
      · have := ab (SZ_le hok) (aT 183 hr)
        unfold vI
        rw [ei, if_pos hu, ao]; exact aH (.l .A (.m 123 (.n 183)) (.p (.a .A (.a (.m 22326 .B) (.m 183 .C))) (.a (.m 22326 (.a .I .B)) (.m 183 (.a .C .I))))) rf [_,_,_] [] this
    · have h0 : kM [p] = 0 := by rw [ei, if_neg hu]; rfl
      refine cy hu (a6 rfl (af (.append rfl (by rw [ah]; exact aL hF (by decide))) (next [p] (fun _ => rfl) (fun h _ => h h0) (fun y m => am.mp m ▸ okp.x) ?_)))
      have := okp.size
      unfold vI
      rw [ei, if_neg hu, ao]; exact aH (.l .A (.n 183) (.p (.a .A (.a (.m 22326 .B) (.m 183 .C))) (.a (.m 22326 (.a .O .B)) (.m 183 (.a .C .I))))) rf [_,_,_] [] this
theorem oe (hW : Wk W) {Q : VQ} {L : List fk} (hz : vI L ≤ 1000000) (ok : ∀ p ∈ L, CkLs p) (ne : ∀ p ∈ L, yT p → p.o ≠ p.t) (q : ∀ R, (kM L = 0 → R = L) → (kM L ≠ 0 → kM R ≠ 0) → SZ R ≤ vI L → (∀ p ∈ R, CkX p) → Q (.d (.lst (R.map fU))) σ) :
    CallP W (n + 8) 453 [.d (.lst (L.map fU)), .d (.str "merge"), .d (.str "myers")] σ Q := by
  refine nD hW (ws := [.d (.lst (L.map fU)), .d (.str "merge"), .d (.str "myers")]) rfl rfl rfl ?_
  refine af (.hd rfl) (ef (d := .lst _) rfl (qI hW hz L (l := []) (ps := []) ⟨fun _ => rfl, fun h => (h rfl).elim, nofun⟩ (aW (aS _)) ok ne fun ps e4 prt hs => ?_))
  refine aw (.mem (.ss "merge" ["diff3", "zdiff3"])) (aN (by decide) ?_)
  refine vK hW (ab hs hz) prt.ln fun R clo => q R (fun e => ?_) (fun e => ?_) (ab clo.size hs) clo.ln
  · have := prt.same e; subst this; exact clo.same (cnt_zero.mp e)
  · have ⟨y, m, h⟩ := clo.some_ (cnt_pos (prt.some_ e)); exact fun z => cnt_zero.mp z y m h
end
theorem uF (a b : List Ln) : (dT a b).length ≤ 2 := by unfold dT; split <;> exact aP rfl
noncomputable def sy (d3 : Bool) (m : Nat) (n0 n1 n2 : String) (b o t : List Ln) : List Ln :=
  [qK 0 m n0 (dT o t)] ++ cX o (dT o t) ++ (if d3 then [qK 1 m n1 (dT o t)] ++ cX b (dT o t) else []) ++ [qK 2 m "" (dT o t)] ++ cX t (dT o t) ++ [qK 3 m n2 (dT o t)]
noncomputable def vk (s : String) : Prop := s.length ≤ 1000 ∧ ∀ c ∈ s.toList, c.toNat < 256
noncomputable def styS (d3 : Bool) : String := if d3 then "diff3" else "merge"
section
variable {W : Wd} {n : Nat} {σ : List MO} {Q : VQ}
theorem bW {a b : List Ln} (h : a.length + b.length ≤ 16777216) : BinR σ .Add (.d (c5 a)) (.d (c5 b)) (.d (c5 (a ++ b))) σ := by
  unfold c5
  rw [aB]; exact .addL rfl rfl (by rw [ah, ah]; exact h)
theorem gm (hW : Wk W) {u : String} {d3 : Bool} {m : Nat} {n0 n1 n2 : String} {b o t : List Ln} (hm : m ≤ 1000) (h0 : vk n0) (h1 : vk n1) (h2 : vk n2)
    (hb : b.length ≤ 1000000) (ho : o.length ≤ 1000000) (ht : t.length ≤ 1000000) (hbx : ∀ x ∈ b, x.length ≤ 1000000) (hox : ∀ x ∈ o, x.length ≤ 1000000) (htx : ∀ x ∈ t, x.length ≤ 1000000)
    (q : Q (.d (c5 (sy d3 m n0 n1 n2 b o t))) σ) : CallP W (n + 3) 479 [.d (qV u b o t), .d (.str (styS d3)), .d (.tup [.str n0, .str n1, .str n2]), .d (.int m)] σ Q := by
  have he := uF o t
  have he' : (dT o t).length ≤ 1000 := ab he (by decide)
  unfold sy at q
  refine nD hW (ws := [.d (qV u b o t), .d (.str (styS d3)), .d (.tup [.str n0, .str n1, .str n2]), .d (.int m)]) rfl rfl rfl ?_
  refine kK hW (aA ho ht) ?_
  have lb := (fq (l := b) (e := dT o t)).2
  have lo := (fq (l := o) (e := dT o t)).2
  have lt := (fq (l := t) (e := dT o t)).2
  refine aM (.tup (by decide) rfl) (dB hW (i := 0) (by decide) hm h0.1 h0.2 he' (af (.d rfl) ?_))
  refine d9 hW (l := o) (ab ho (by decide)) he hox (af (bW (a := [qK 0 m n0 (dT o t)]) ?_) ?_)
  · rw [lo]; exact ab (br ho 1) (by decide)
  have fin : ∀ F : List Ln, F.length ≤ 3000000 → Q (.d (c5 (F ++ [qK 2 m "" (dT o t)] ++ cX t (dT o t) ++ [qK 3 m n2 (dT o t)]))) σ → gZ (ja (CallP W (n + 2))) (gM [] 0 σ Q) .next [.d (qV u b o t), .d (.str (styS d3)), .d (.tup [.str n0, .str n1, .str n2]), .d (.int m), .d (.bytes (dT o t)), .d (c5 F)] [] := fun F hF q => by
    refine dB hW (i := 2) (by decide) hm (by decide) nofun he' (af (.d rfl) ?_)
    refine af (bW (b := [qK 2 m "" (dT o t)]) (ab (aC hF 1) (by decide))) ?_
    refine d9 hW (l := t) (ab ht (by decide)) he htx (af (bW ?_) ?_)
    · rw [lt, ac]; exact ab (aA (aC hF 1) ht) (by decide)
    refine aM (.tup (by decide) rfl) (dB hW (i := 3) (by decide) hm h2.1 h2.2 he' (af (.d rfl) ?_))
    refine af (bW (b := [qK 3 m n2 (dT o t)]) ?_) q
    rw [ac, ac, lt]; exact ab (aC (aA (aC hF 1) ht) 1) (by decide)
  induction d3 using Bool.casesOn with
  | false =>
    rw [if_neg nofun, ar] at q
    refine aw (.mem (.ss "merge" ["diff3", "zdiff3"])) (aN (by decide) (fin _ ?_ q))
    rw [ac, lo]; exact ab (br ho 1) (by decide)
  | true =>
    rw [if_pos rfl, ← ag ([_] ++ _)] at q
    refine aw (.mem (.ss "diff3" ["diff3", "zdiff3"])) (a6 (by decide) ?_)
    refine aM (.tup (by decide) rfl) (dB hW (i := 1) (by decide) hm h1.1 h1.2 he' (af (.d rfl) ?_))
    have l1 : ([qK 0 m n0 (dT o t)] ++ cX o (dT o t)).length ≤ 1000001 := by rw [ac, lo, bq]; exact aj ho
    refine af (bW (b := [qK 1 m n1 (dT o t)]) (ab (aC l1 1) (by decide))) ?_
    refine d9 hW (l := b) (ab hb (by decide)) he hbx (af (bW ?_) (fin _ ?_ q))
    · rw [lb, ac]; exact ab (aA (aC l1 1) hb) (by decide)
    · rw [ac, lb, ac]; exact ab (aA (aC l1 1) hb) (by decide)
noncomputable def pY (p : fk) : List Ln := if p.u = "theirs" then p.t else p.o
theorem xG (hW : Wk W) {p : fk} (q : Q (.d (c5 (pY p))) σ) : CallP W (n + 1) 356 [.d (fU p)] σ Q := by
  unfold pY at q
  refine nD hW (ws := [.d (fU p)]) rfl rfl rfl ?_
  refine aw (.eq (.atom uO)) ?_
  by_cases h : p.u = "theirs"
  · rw [if_pos h] at q; exact cy h q
  · rw [if_neg h] at q; exact cn h q
end
theorem qE {o t : Bool} {a b : List Ln} (h : lD o t a b = "conflict") : o = true ∧ a ≠ b := by
  unfold lD at h
  by_cases h1 : t = false
  · rw [if_pos h1] at h; exact absurd h (by decide)
  by_cases h2 : o = false
  · rw [if_neg h1, if_pos h2] at h; exact absurd h (by decide)
  by_cases h3 : a = b
  · rw [if_neg h1, if_neg h2, if_pos h3] at h; exact absurd h (by decide)
  · exact ⟨Bool.not_eq_false _ ▸ h2, h3⟩
structure CkOk (p : fk) : Prop where
  ls : CkLs p
  ne : yT p → p.o ≠ p.t
section
variable {A B C : List Ln}
theorem oP (a : LsOk A) (b : LsOk B) (c : LsOk C) {s1 s2 : Int} {x y : Nat} : (∀ p ∈ iX A B C s1 s2 x y, CkOk p) ∧ kM (iX A B C s1 s2 x y) = 0 := by
  unfold iX
  split
  · exact ⟨fun p m => by cases am.mp m; exact ⟨⟨a.slice, b.slice, c.slice⟩, fun h => absurd (show ("same" : String) = "conflict" from h) (by decide)⟩, rfl⟩
  · exact ⟨nofun, rfl⟩
theorem Chs.ok (a : LsOk A) (b : LsOk B) (c : LsOk C) {r1 r2 : List dA} {s1 s2 : Int} {x : Nat} {L : List fk} (h : Chs A B C r1 r2 s1 s2 x L) : (∀ p ∈ L, CkOk p) ∧ kM L ≤ r1.length := by
  induction h with
  | nil => exact ⟨(oP a b c).1, aW (oP a b c).2⟩
  | @cons r1 r2 s1 s2 x low t1 t2 u1 u2 e L lo F _ ih =>
    refine ⟨fun p m => ?_, ?_⟩
    · rcases bk.mp m with m | m
      · exact (oP a b c).1 p m
      · cases m with
        | head => exact ⟨⟨a.slice, b.slice, c.slice⟩, fun h => (qE h).2⟩
        | tail _ m => exact ih.1 p m
    · rw [ky, (oP a b c).2, aS, ei, F.app.1, ac]
      refine aA ?_ ih.2
      by_cases h : (ccK A B C s1 s2 low t1 t2 e).u = "conflict"
      · rw [if_pos h]; exact bP.mpr (of_decide_eq_true (qE h).1)
      · rw [if_neg h]; exact aY _
end
noncomputable def Mrg (A B C : List Ln) (X : Option Ln) : Prop := ∀ c1, LDiff A B c1 → ∀ c2, LDiff A C c2 → ∀ L, Chs A B C c1 c2 0 0 0 L → kM L ≤ 1 ∧ match X with
  | some x => kM L = 0 ∧ (L.flatMap pY).flatten = x
  | none => kM L ≠ 0
inductive Mout (X : Option Ln) (x : Ln) : Nat → Prop
  | ok (h : X = some x) : Mout X x 0
  | bad {k} (h : X = none) : Mout X x (k + 1)
theorem ended_x {l : List Ln} {e : Ln} {k : Nat} (h : ∀ x ∈ l, x.length ≤ k) : ∀ x ∈ cX l e, x.length ≤ k + e.length := by
  rcases fb l with rfl | ⟨l', y, rfl⟩
  · exact nofun
  · rw [cF] at h ⊢
    rw [show cX (l' ++ [y]) e = if eF y = true then l' ++ [y] else l' ++ [y ++ e] by unfold cX; rw [iO]; dsimp only; rw [nR]]
    split
    · exact fun x m => bL (h x m)
    · exact fc (fun x m => bL (h x (ba _ m))) (by rw [ac]; exact aC (h y (aR _ (.head _))) _)
theorem mkL_le {i m : Nat} {s : String} {e : Ln} : (qK i m s e).length ≤ m + (s.length + 1) + e.length := by
  unfold qK
  rw [ac, ac, be]
  refine aC (br ?_ m) _
  split
  · exact aY _
  · rw [ao, ah, String.length_toList]; exact au _
theorem dr {α : Type} {P : α → Prop} {l m : List α} (h : ∀ y ∈ l, P y) (h' : ∀ y ∈ m, P y) : ∀ y ∈ l ++ m, P y := fun y k => (bk.mp k).elim (h y) (h' y)
theorem dD {α : Type} {P : α → Prop} {x : α} (h : P x) : ∀ y ∈ [x], P y := fun y m => am.mp m ▸ h
theorem AD {m : Nat} {p : fk} (hm : m ≤ 20) (hp : CkX p) : (∀ x ∈ sy false m "now" "then" "resolved" p.b p.o p.t, x.length ≤ 70) ∧ (sy false m "now" "then" "resolved" p.b p.o p.t).length ≤ SZ [p] := by
  have le := uF p.o p.t
  have ho : ∀ x ∈ p.o, x.length ≤ 64 := fun x m => hp x (ba _ (aR _ m))
  have ht : ∀ x ∈ p.t, x.length ≤ 64 := fun x m => hp x (aR _ m)
  have mk : ∀ {i : Nat} {s : String}, s.length + 1 ≤ 9 → (qK i m s (dT p.o p.t)).length ≤ 70 := fun h => ab mkL_le (ab (aA (aA hm h) le) (by decide))
  have en : ∀ {l : List Ln}, (∀ x ∈ l, x.length ≤ 64) → ∀ x ∈ cX l (dT p.o p.t), x.length ≤ 70 := fun h x m => ab (ended_x h x m) (ab (br le 64) (by decide))
  unfold sy
  rw [if_neg nofun, ar]
  refine ⟨dr (dr (dr (dr (dD (mk (by decide))) (en ho)) (dD (mk (by decide)))) (en ht)) (dD (mk (by decide))), ?_⟩
  rw [oG, eA, ac, ac, ac, ac, fq.2, fq.2]
  show 1 + p.o.length + 1 + p.t.length + 1 ≤ _
  exact aH (.p (.a (.a (.a (.a .I .A) .I) .B) .I) (.a (.a (.a .C .A) .B) (.n 3))) rf [_,_,_] []
section
variable {W : Wd} {n : Nat} {σ : List MO}
theorem yP (hW : Wk W) {v0 v1 v2 v7 v8 : V} {m : Nat} {Q : FX} (hm : m ≤ 20) : ∀ (R : List fk) {ls : List Ln} {k : Nat} {e11 : V}, ls.length + SZ R ≤ 70000 → (∀ x ∈ ls, x.length ≤ 70) → (∀ p ∈ R, CkX p) →
    (∀ ls' k' e11, ls'.length ≤ 70000 → (∀ x ∈ ls', dV x ≤ 70) → (kM R = 0 → ls' = ls ++ R.flatMap pY) → k' = k + kM R → Q .next [v0, v1, v2, .d (.str "merge"), .d .none, .d (.tup [.str "now", .str "then", .str "resolved"]), .d (.int m), v7, v8, .hd 0, .d (.int (k' : Nat)), e11] [.list (ls'.map .bytes)]) →
    gl (kN (CallP W (n + 3))) 11 (R.map fU) [v0, v1, v2, .d (.str "merge"), .d .none, .d (.tup [.str "now", .str "then", .str "resolved"]), .d (.int m), v7, v8, .hd 0, .d (.int k), e11] [.list (ls.map .bytes)] Q
  | [], ls, k, e11, hz, hx, _, q => q ls k e11 hz hx (fun _ => (ar _).symm) rfl
  | p :: R, ls, k, e11, hz, hx, hp, q => by
    have hpx := hp p (.head _)
    rw [show SZ (p :: R) = SZ [p] + SZ R from je (a := [p])] at hz
    have sz : SZ [p] ≤ 70000 := ab (ab (ai _ _) (aK _ _)) hz
    have next := fun (S : List Ln) (hS : S.length ≤ SZ [p]) (hSx : ∀ x ∈ S, x.length ≤ 70) (k' : Nat) (h0 : ∀ ls', (kM R = 0 → ls' = ls ++ S ++ R.flatMap pY) → kM (p :: R) = 0 → ls' = ls ++ (p :: R).flatMap pY) (hk : ∀ k'', k'' = k' + kM R → k'' = k + kM (p :: R)) => yP hW (v0 := v0) (v1 := v1) (v2 := v2) (v7 := v7) (v8 := v8) (Q := Q) hm R (ls := ls ++ S) (k := k') (e11 := .d (fU p)) (by rw [ac, aZ]; exact ab (br (aC hS _) _) hz) (dr hx hSx) (fun p m => hp p (.tail _ m)) fun ls' k'' e11 a b c d => q ls' k'' e11 a b (h0 ls' c) (hk k'' d)
    have hls : ∀ {S : List Ln}, S.length ≤ SZ [p] → (ls.map D.bytes).length + (S.map D.bytes).length ≤ 16777216 := fun h => by
      rw [ah, ah]; exact ab (br h _) (ab (br (ai _ _) _) (ab hz (by decide)))
    refine aw (fe (.atom uO)) ?_
    by_cases hu : p.u = "conflict"
    · refine cn (fun h => h hu) (aw .ntN (aN rfl ?_))
      have hl : p.b.length + p.o.length + p.t.length ≤ 1000000 := by rw [oG, eA] at sz; exact ab (aG sz) (by decide)
      have hx' : ∀ {l : List Ln}, (∀ x ∈ l, x ∈ di p) → ∀ x ∈ l, x.length ≤ 1000000 := fun h x m => ab (hpx x (h x m)) (by decide)
      have ⟨sb, sl⟩ := AD hm hpx
      refine gm hW (u := p.u) (d3 := false) (b := p.b) (o := p.o) (t := p.t) (ab hm (by decide)) ⟨by decide, by decide⟩ ⟨by decide, by decide⟩ ⟨by decide, by decide⟩ (aG (aG hl)) (ab (ab (aK _ _) (ai _ _)) hl) (ab (aK _ _) hl) (hx' fun x m => ba _ (ba _ m)) (hx' fun x m => ba _ (aR _ m)) (hx' fun x m => aR _ m) ?_
      refine af (.extend rfl rfl (hls sl)) ?_
      have := next _ sl sb (k + 1) (fun ls' _ h => by rw [ei, if_pos hu] at h; exact nomatch (jg.mp h).1) fun k'' e => by rw [ei, if_pos hu, e, aZ]
      rw [aB] at this
      exact this
    · have sl : (pY p).length ≤ SZ [p] := by
        rw [oG, eA]
        unfold pY
        split
        · exact bL (aK _ _)
        · exact bL (bL (aK _ _))
      have sx : ∀ x ∈ pY p, x.length ≤ 70 := fun x m => ab (hpx x (by
        unfold pY at m
        split at m
        · exact aR _ m
        · exact ba _ (aR _ m))) (by decide)
      refine cy hu (xG hW (af (.extend rfl rfl (hls sl)) ?_))
      have := next _ sl sx k (fun ls' c h => by rw [ei, if_neg hu, aS] at h; rw [c h, aF, ag]) fun k'' e => by rw [ei, if_neg hu, aS]; exact e
      rw [aB] at this
      exact this
noncomputable def tG (b : Ln) : Prop := b.length ≤ 4000 ∧ LsOk (bU b)
theorem sN (hW : Wk W) {Q : VQ} {a b c : Ln} {m : Nat} {X : Option Ln} (hm : m ≤ 20) (ha : tG a) (hb : tG b) (hc : tG c) (M : Mrg (bU a) (bU b) (bU c) X) (q : ∀ x k, Mout X x k → Q (.d (.tup [.bytes x, .int k])) σ) :
    CallP W (n + 9) 495 [.d (.bytes a), .d (.bytes b), .d (.bytes c), .d (.str "merge"), .d .none, .d (.tup [.str "now", .str "then", .str "resolved"]), .d (.int m)] σ Q := by
  refine nD hW (ws := [.d (.bytes a), .d (.bytes b), .d (.bytes c), .d (.str "merge"), .d .none, .d (.tup [.str "now", .str "then", .str "resolved"]), .d (.int m)]) rfl rfl rfl ?_
  refine g9 hW (ab ha.1 (by decide)) (g9 hW (ab hb.1 (by decide)) (g9 hW (ab hc.1 (by decide)) ?_))
  refine zZ hW (ab (aA ha.2.n hb.2.n) (by decide)) (ab (aA ha.2.n hc.2.n) (by decide)) fun c1 c2 L d1 d2 C hL => af (.hd rfl) ?_
  obtain ⟨hc1, hX⟩ := M c1 d1 c2 d2 L C
  have ok := (C.ok ha.2 hb.2 hc.2).1
  have hk : vI L ≤ 70000 := by
    have := d1.dfs.count.1; have := d2.dfs.count.1; have := ha.2.n
    unfold vI
    clear hX M ok; exact aH (.l (.m 183 .A) (.m 183 (.a (.m 2 (.a .B .C)) .I)) (.l (.m 366 .B) (.m 366 (.a .D .I)) (.l (.m 366 .C) (.m 366 (.a .D .I)) (.l (.m 22326 .F) (.m 22326 .I) (.l (.m 732 .D) (.m 732 (.n 60)) (.p (.a (.m 22326 .F) (.m 183 .A)) (.n 70000))))))) rf [_,_,_,_,_] [] (a5 183 hL) (a5 366 (by assumption)) (a5 366 (by assumption)) (a5 22326 hc1) (a5 732 this)
  refine oe hW (ab hk (by decide)) (fun p m => (ok p m).ls) (fun p m => (ok p m).ne) fun R h0 h1 hs hx => ?_
  refine ef (d := .lst _) rfl (yP hW hm R (ls := []) (k := 0) (ab (aW (aS _)) (ab hs hk)) nofun hx fun ls k e11 hl hlx e0 ek => ?_)
  refine af (.joinB rfl (ab (s7 hlx) (ab (aT 70 hl) (by decide)))) ?_
  induction X using Option.casesOn with
  | some x =>
    obtain ⟨c0, rfl⟩ := hX
    have := h0 c0; subst this
    rw [c0] at ek; subst ek
    have := q _ 0 (.ok rfl)
    rw [← cJ (List.flatMap pY R), ← e0 c0] at this
    exact this
  | none =>
    obtain ⟨j, hj⟩ := Nat.exists_eq_succ_of_ne_zero (h1 hX)
    rw [hj, aS] at ek; subst ek
    exact q _ _ (.bad rfl)
end
noncomputable def Inj (mm : Ln → Option Int) : Prop := ∀ x y v, mm x = some v → mm y = some v → x = y
structure HSt (σ : List MO) (k j : Nat) (mm : Ln → Option Int) (z : Nat) : Prop where
  at_ : HsAt σ k j mm z
  inj : Inj mm
section
variable {σ : List MO} {k j z : Nat} {mm : Ln → Option Int} {S S1 S2 : Ln}
theorem HsAt.dig_le (H : HsAt σ k j mm z) (S : Ln) : 1 ≤ tS mm z S ∧ tS mm z S ≤ dz mm z S ∧ z ≤ dz mm z S ∧ dz mm z S ≤ z + 1 := by
  unfold tS dz
  cases e : mm S with
  | none => exact ⟨by show (1 : Int) ≤ z + 1; exact aH (.P .I (.a (.c .A) .I)) rf [_] [], cA _, bO _, au _⟩
  | some y => exact have ⟨a, b⟩ := H.lim _ _ e; ⟨a, b, au _, bO _⟩
theorem HSt.step (H : HSt σ k j mm z) (S : Ln) : HSt (σ.set j (.bmap (tM mm z S) (dz mm z S))) k j (tM mm z S) (dz mm z S) := by
  have A := H.at_
  have ne : j ≠ k := fun e => by subst e; cases A.i.symm.trans A.b
  have hd := A.dig_le S
  have key : ∀ y, y ≠ S → mm y ≠ some (tS mm z S) := fun y hy h => by
    unfold tS at h
    cases e : mm S with
    | none => rw [e] at h; exact absurd (A.lim _ _ h).2 (eW.mpr (Int.lt_succ _))
    | some v => rw [e] at h; exact hy (H.inj _ _ _ h e)
  refine ⟨⟨(nO ne).trans A.i, lB (aQ.mp A.b).1, fun x y h => ?_⟩, fun x y v h1 h2 => ?_⟩
  · unfold tM at h
    by_cases e : x = S
    · rw [if_pos e] at h; cases h; exact ⟨hd.1, hd.2.1⟩
    · rw [if_neg e] at h; exact have ⟨a, b⟩ := A.lim _ _ h; ⟨a, b9 b (bM.mpr hd.2.2.1)⟩
  · unfold tM at h1 h2
    by_cases e1 : x = S
    · rw [if_pos e1] at h1; cases h1
      by_cases e2 : y = S
      · rw [e1, e2]
      · rw [if_neg e2] at h2; exact (key y e2 h2).elim
    · rw [if_neg e1] at h1
      by_cases e2 : y = S
      · rw [if_pos e2] at h2; cases h2; exact (key x e1 h1).elim
      · rw [if_neg e2] at h2; exact H.inj _ _ _ h1 h2
theorem u8_inj {a b : Int} (ha : 1 ≤ a) (ha' : a ≤ 255) (hb : 1 ≤ b) (hb' : b ≤ 255) (h : a.toNat.toUInt8 = b.toNat.toUInt8) : a = b := by
  have := congrArg UInt8.toNat h
  change (UInt8.ofNat _).toNat = (UInt8.ofNat _).toNat at this
  rw [UInt8.toNat_ofNat', UInt8.toNat_ofNat', Nat.mod_eq_of_lt (by exact aH (.u (.c .A) .A (.L .A (.n 255) (.q .A (.n 256)))) rf [_] [_] (aE (aH (.L .I .A (.P .O .A)) rf [] [_] ha)) ha'), Nat.mod_eq_of_lt (by exact aH (.u (.c .A) .A (.L .A (.n 255) (.q .A (.n 256)))) rf [_] [_] (aE (aH (.L .I .A (.P .O .A)) rf [] [_] hb)) hb')] at this
  exact aH (.w .A (.c .A) (.u (.c .B) .B (.e .A .B (.O .A .B)))) rf [_,_] [_,_] (aE (aH (.L .I .A (.P .O .A)) rf [] [_] ha)) (aE (aH (.L .I .A (.P .O .A)) rf [] [_] hb)) this
theorem yE (H : HSt σ k j mm z) (hz : z < 200) : ((tS (tM mm z S1) (dz mm z S1) S2).toNat.toUInt8 = (tS mm z S1).toNat.toUInt8) ↔ S1 = S2 := by
  have H' := H.step S1
  have d1 := H.at_.dig_le S1
  have d2 := H'.at_.dig_le S2
  have hs : tM mm z S1 S1 = some (tS mm z S1) := if_pos rfl
  constructor
  · intro h
    have e := u8_inj d2.1 (by exact aH (.L .A (.c .A) (.l .A (.a .B .I) (.l .B (.a .C .I) (.t .C (.n 200) (.P .A (.n 255)))))) rf [_,_,_] [_] d2.2.1 d2.2.2.2 d1.2.2.2 hz) d1.1 (by exact aH (.L .A (.c .A) (.l .A (.a .B .I) (.t .B (.n 200) (.P .A (.n 255))))) rf [_,_] [_] d1.2.1 d1.2.2.2 hz) h
    have e' : (tM mm z S1 S2).getD ((dz mm z S1 : Nat) + 1) = tS mm z S1 := e
    cases h2 : tM mm z S1 S2 with
    | none => rw [h2] at e'; exact absurd d1.2.1 (eW.mpr (e' ▸ Int.lt_succ _))
    | some v => rw [h2] at e'; cases e'; exact H'.inj _ _ _ hs h2
  · rintro rfl
    have : tS (tM mm z S1) (dz mm z S1) S1 = tS mm z S1 := by
      show (tM mm z S1 S1).getD _ = _
      rw [hs]; rfl
    rw [this]
end
structure Pg (m : Nat) (b : Ln) (es : List Ent) : Prop where
  len : b.length ≤ 4000
  evs : Evs m (bU b) es
  ok : EsOk es
  ne : es.flatMap gN ≠ []
inductive RepR (m : Nat) (e1 e2 : List Ent) (nrm rsl : Ln) : D → Prop
  | ne (h : (e1.flatMap gN).flatten ≠ (e2.flatMap gN).flatten) : RepR m e1 e2 nrm rsl .none
  | mrg {X r} (h : (e1.flatMap gN).flatten = (e2.flatMap gN).flatten) (sn : tG nrm) (so : tG (e1.flatMap (zL m)).flatten) (sr : tG rsl) (M : Mrg (bU nrm) (bU (e1.flatMap (zL m)).flatten) (bU rsl) X) (a : ∀ x, X = some x → x.length ≤ 4000 ∧ r = if p7 x m = true then .bytes x else .none) (b : X = none → r = .none) : RepR m e1 e2 nrm rsl r
section
variable {W : Wd} {n : Nat} {σ : List MO} {Q : VQ}
theorem dd (hW : Wk W) {oct nrm rsl : Ln} {m k j z : Nat} {mm : Ln → Option Int} {r : D} {e1 e2 : List Ent} (H : HSt σ k j mm z) (hz : z < 190) (hm : m ≤ 10) (p1 : Pg m oct e1) (p2 : Pg m nrm e2) (hr : RepR m e1 e2 nrm rsl r)
    (q : ∀ mm' z', z' ≤ z + 2 → HSt (σ.set j (.bmap mm' z')) k j mm' z' → Q (.d r) (σ.set j (.bmap mm' z'))) : CallP W (n + 10) 546 [.d (.bytes oct), .d (.bytes nrm), .d (.bytes rsl), .hd k, .d (.int m)] σ Q := by
  have A := H.at_
  have ne : k ≠ j := fun e => by subst e; cases A.i.symm.trans A.b
  have H0 : HSt [.inst 108 [.d (.int 4), .hd 1], .bmap mm z] 0 1 mm z := ⟨⟨rfl, rfl, A.lim⟩, H.inj⟩
  have H1 := H0.step (e1.flatMap gN).flatten
  have d1 := (A.dig_le (e1.flatMap gN).flatten).2.2.2
  have d2 := (H1.at_.dig_le (e2.flatMap gN).flatten).2.2.2
  have te := yE (S1 := (e1.flatMap gN).flatten) (S2 := (e2.flatMap gN).flatten) H (ax hz (by decide))
  have H2 := (H.step (e1.flatMap gN).flatten).step (e2.flatMap gN).flatten
  rw [List.set_set] at H2
  have q := q _ _ (ab d2 (aj d1)) H2
  refine Bm (ws := [.d (.bytes oct), .d (.bytes nrm), .d (.bytes rsl), .hd 0, .d (.int m)]) (σL := [.inst 108 [.d (.int 4), .hd 1], .bmap mm z]) [k, j] 0 hW rfl rfl rfl (bt.mpr ⟨fun e => ne (am.mp e), bQ _ _⟩) ⟨A.i, A.b, trivial⟩ rfl ?_
  refine eD hW (k := 0) (j := 1) H0.at_ (ax hz (by decide)) hm (ab p1.len (by decide)) p1.evs p1.ok (fun h => absurd h p1.ne) fun _ => ?_
  refine aw (.isO (.bytes _)) (aN rfl ?_)
  refine eD hW (k := 0) (j := 1) H1.at_ (aL d1 (ax (tH hz) (by decide))) hm (ab p2.len (by decide)) p2.evs p2.ok (fun h => absurd h p2.ne) fun _ => ?_
  refine aM (.tup (by decide) rfl) ?_
  generalize hM : tM (tM mm z (e1.flatMap gN).flatten) (dz mm z (e1.flatMap gN).flatten) (e2.flatMap gN).flatten = mm2 at q ⊢
  generalize hZ : dz (tM mm z (e1.flatMap gN).flatten) (dz mm z (e1.flatMap gN).flatten) (e2.flatMap gN).flatten = z2 at q ⊢
  have q : Q (.d r) ((σ.set k (.inst 108 [.d (.int 4), .hd j])).set j (.bmap mm2 z2)) := by rw [dL A.i]; exact q
  clear hM hZ
  induction hr using RepR.casesOn with
  | ne h =>
    refine aw (neY (.atom kR) fun e => h (te.mp (eY.inj (eY.inj (eY.inj (eY.inj e).2).2).2).1.symm)) (a6 rfl (a6 rfl ?_))
    show Q _ ((σ.set k (.inst 108 [.d (.int 4), .hd j])).set j (.bmap mm2 z2))
    exact q
  | @mrg X _ h sn so sr M a b =>
    have rest : gZ (gA (CallP W (n + 9))) (gM [k, j] 0 σ Q) .next [.d (.bytes oct), .d (.bytes nrm), .d (.bytes rsl), .hd 0, .d (.int m), .d (.bytes [0, 0, 0, (tS mm z (e1.flatMap gN).flatten).toNat.toUInt8]), .d (.bytes (e1.flatMap (zL m)).flatten), .un, .un] [.inst 108 [.d (.int 4), .hd 1], .bmap mm2 z2] := by
      refine sN hW (ab (aC hm 2) (by decide)) sn so sr M fun x kk o => ?_
      induction o using Mout.casesOn with
      | ok e =>
        have ⟨hx, hr⟩ := a x e
        subst hr
        refine cy rfl (lK hW (ab hx (by decide)) (ab hm (by decide)) ?_)
        cases hb : p7 x m with
        | true => rw [hb, if_pos rfl] at q; exact a6 rfl (a6 rfl q)
        | false => rw [hb, if_neg nofun] at q; exact aN rfl (aN rfl q)
      | bad e =>
        have := b e; subst this
        exact cn (fun h => nomatch h) (aN rfl q)
    exact aw (neN (.atom kR) (by rw [te.mpr h])) (aN rfl (aN rfl rest))
end
structure Gd (l : Ln) : Prop where
  ex : ∃ r : Ln, l = r ++ [10] ∧ (∀ c ∈ r, c ≠ 10 ∧ c ≠ 13) ∧ r.length ≤ 15
theorem pb : ∀ {r rest : Ln}, (∀ c ∈ r, c ≠ 10 ∧ c ≠ 13) → cb (r ++ 10 :: rest) = (r ++ [10], rest)
  | [], rest, _ => if_pos rfl
  | x :: r, rest, h => by
    have e : cb (x :: (r ++ 10 :: rest)) = (x :: (cb (r ++ 10 :: rest)).1, (cb (r ++ 10 :: rest)).2) := if_neg (h x (.head _)).1
    rw [pb fun c m => h c (.tail _ m)] at e
    exact e
theorem cR : ∀ {ls : List Ln}, (∀ l ∈ ls, Gd l) → bU ls.flatten = ls
  | [], _ => jv
  | l :: rs, h => by
    obtain ⟨r, rfl, hr, _⟩ := (h l (.head _)).ex
    have c := pb (rest := rs.flatten) hr
    rw [b6, ag, yr, gh (dG r (io _ _)), c]
    exact congrArg _ (cR fun x m => h x (.tail _ m))
theorem Gd.len {l : Ln} (h : Gd l) : l.length ≤ 16 := by
  obtain ⟨r, rfl, _, h⟩ := h.ex; rw [ac]; exact aj h
theorem gQ {ls : List Ln} (h : ∀ l ∈ ls, Gd l) : ls.flatten.length ≤ ls.length * 16 := s7 fun x m => (h x m).len
theorem LsOk.good {ls : List Ln} (h : ∀ l ∈ ls, Gd l) (hl : ls.length ≤ 60) : LsOk ls := ⟨hl, fun x m => ab (h x m).len (by decide)⟩
theorem nX {ls : List Ln} (h : ∀ l ∈ ls, Gd l) (hl : ls.length ≤ 60) : tG ls.flatten :=
  ⟨ab (gQ h) (ab (aT 16 hl) (by decide)), by rw [cR h]; exact .good h hl⟩
theorem wM {a c d : Ln} (h : c.length = d.length) : BM.endsW (a ++ c).toArray d.toArray = (c.toArray == d.toArray) := by
  have e : (a ++ c).toArray.size = a.length + d.length := by rw [aX, ac, h]
  have e' : (a ++ c).toArray.extract a.length (a.length + d.length) = c.toArray := by
    rw [List.extract_toArray, List.extract_eq_take_drop, cQ, nQ, ← h, r8]
  unfold BM.endsW
  rw [e, aX, if_neg (bh.mpr (bM.mpr (aK _ _))), dJ, e']
theorem Gd.eF {l : Ln} (h : Gd l) : eF l = true := by obtain ⟨r, rfl, _⟩ := h.ex; exact wM rfl
theorem Gd.eRF {l : Ln} (h : Gd l) : eRF l = false := by
  obtain ⟨r, rfl, hr, _⟩ := h.ex
  rcases fb r with rfl | ⟨r, x, rfl⟩
  · rfl
  · rw [cF, ag]
    refine (wM (c := [x, 10]) (d := [13, 10]) rfl).trans (beq_false_of_ne fun e => ?_)
    exact (hr x (by rw [cF]; exact aR _ (.head _))).2 (eY.inj (Array.mk.inj e)).1
theorem dS {l : List Ln} {e : Ln} (h : ∀ x ∈ l, Gd x) : cX l e = l := by
  unfold cX
  cases hl : l.getLast? with
  | none => rfl
  | some x => exact if_pos (h x (List.mem_of_getLast? hl)).eF
theorem tg {a b : List Ln} (ha : ∀ x ∈ a, Gd x) (hb : ∀ x ∈ b, Gd x) : dT a b = [10] := if_neg fun ⟨h1, h2⟩ => by
  obtain ⟨x, hx⟩ := vX _ h1
  have hg : Gd x := (bk.mp (List.mem_filter.mp hx).1).elim (ha x) (hb x)
  exact bJ (h2 ▸ List.mem_filter.mpr ⟨hx, by rw [hg.eRF]; rfl⟩)
noncomputable def de (m : Nat) (a o t : List Ln) : List Ln := [cw 0 m []] ++ a ++ (if o = [] then [] else cw 1 m [] :: o) ++ [cw 2 m []] ++ t ++ [cw 3 m []]
theorem kr {i m : Nat} : qK i m "" [10] = cw i m [] := by
  unfold qK cw; rw [if_pos rfl]
theorem zA {m : Nat} {b o t : List Ln} (hb : ∀ x ∈ b, Gd x) (ho : ∀ x ∈ o, Gd x) (ht : ∀ x ∈ t, Gd x) : sy (decide (b ≠ [])) m "" "" "" b o t = de m o b t := by
  unfold sy de
  rw [tg ho ht, dS ho, dS ht, dS hb, kr, kr, kr, kr]
  by_cases h : b = []
  · rw [if_pos h, decide_eq_false fun n => n h]; rfl
  · rw [if_neg h, decide_eq_true h]; rfl
theorem km : ∀ a b : Ln, Builtin.Bytes.order b a = (Builtin.Bytes.order a b).swap
  | [], [] => rfl
  | [], _ :: _ => rfl
  | _ :: _, [] => rfl
  | x :: a, y :: b => by
    unfold Builtin.Bytes.order
    by_cases h1 : x < y
    · rw [if_pos h1, if_neg (UInt8.lt_asymm h1), if_pos h1]; rfl
    · by_cases h2 : y < x
      · rw [if_pos h2, if_neg h1, if_pos h2]; rfl
      · rw [if_neg h2, if_neg h1, if_neg h1, if_neg h2]; exact km a b
theorem wn : ∀ {a b : Ln}, Builtin.Bytes.order a b = .eq → a = b
  | [], [], _ => rfl
  | [], _ :: _, h => nomatch h
  | _ :: _, [], h => nomatch h
  | x :: a, y :: b, h => by
    unfold Builtin.Bytes.order at h
    by_cases h1 : x < y
    · rw [if_pos h1] at h; cases h
    · by_cases h2 : y < x
      · rw [if_neg h1, if_pos h2] at h; cases h
      · rw [if_neg h1, if_neg h2] at h
        rw [UInt8.le_antisymm (UInt8.not_lt.mp h2) (UInt8.not_lt.mp h1), wn h]
theorem AX {a b : Ln} : dk b a = !dm a b := by
  unfold dk dm
  rw [km a b]
  cases Builtin.Bytes.order a b <;> rfl
theorem le_both {a b : Ln} (h : dm a b = true) (h' : dm b a = true) : a = b := by
  unfold dm at h h'
  rw [km a b] at h'
  cases e : Builtin.Bytes.order a b with
  | eq => exact wn e
  | lt => rw [e] at h'; cases h'
  | gt => rw [e] at h; cases h
theorem le_total {a b : Ln} (h : dm a b = false) : dm b a = true := by
  unfold dm at h ⊢
  rw [km a b]
  cases e : Builtin.Bytes.order a b with
  | eq => rw [e] at h; cases h
  | lt => rw [e] at h; cases h
  | gt => rfl
noncomputable def sp (o t : List Ln) : List Ln × List Ln := if dm o.flatten t.flatten = true then (o, t) else (t, o)
inductive Srt (o t : List Ln) : List Ln × List Ln → Prop
  | le (h : dm o.flatten t.flatten = true) : Srt o t (o, t)
  | gt (h : dm o.flatten t.flatten = false) : Srt o t (t, o)
theorem AC {o t : List Ln} : Srt o t (sp o t) := by
  unfold sp
  by_cases h : dm o.flatten t.flatten = true
  · rw [if_pos h]; exact .le h
  · rw [if_neg h]; exact .gt (Bool.not_eq_true _ ▸ h)
theorem xE {o t : List Ln} (ho : ∀ x ∈ o, Gd x) (ht : ∀ x ∈ t, Gd x) : bX o t = ((sp o t).1.flatten, (sp o t).2.flatten) := by
  unfold bX
  rw [dS ho, dS ht]
  have h := AC (o := o) (t := t)
  generalize sp o t = p at h
  induction h using Srt.casesOn with
  | le h => rw [if_pos h]
  | gt h => rw [if_neg (by rw [h]; nofun)]
theorem qF {o t : List Ln} (ho : ∀ x ∈ o, Gd x) (ht : ∀ x ∈ t, Gd x) : bX t o = bX o t := by
  unfold bX
  rw [dS ho, dS ht]
  cases h : dm o.flatten t.flatten with
  | true =>
    rw [if_pos rfl]
    by_cases h' : dm t.flatten o.flatten = true
    · rw [if_pos h', le_both h h']
    · rw [if_neg h']
  | false => rw [le_total h]; rfl
noncomputable def nt (w : String) (b o t : List Ln) : List Ln := if w = "base" then b else if w = "theirs" then t else if w = "both" then o ++ t else o
noncomputable def jV (m : Nat) (b o t : List Ln) : List String → List Ln
  | [] => de m o b t
  | w :: _ => nt w b o t
noncomputable def i5 (m : Nat) : List Pc → List String → List Ln
  | [], _ => []
  | .plain l :: r, ws => l ++ i5 m r ws
  | .conf b o t :: r, ws => jV m b o t ws ++ i5 m r ws.tail
inductive OkW : String → Prop
  | ours : OkW "ours"
  | theirs : OkW "theirs"
  | base : OkW "base"
  | both : OkW "both"
inductive Ad : Pc → Prop
  | plain {l} (h : ∀ x ∈ l, Gd x) : Ad (.plain l)
  | conf {b o t} (hb : ∀ x ∈ b, Gd x) (ho : ∀ x ∈ o, Gd x) (ht : ∀ x ∈ t, Gd x) : Ad (.conf b o t)
theorem str_get {ws : List String} {k : Nat} {w : String} {r : List String} (h : ws.drop k = w :: r) : (ws.map D.str)[((k : Nat) : Int).toNat]? = some (.str w) := by
  have e : ws[k]? = some w := by rw [← Nat.add_zero k, ← pS, h]; rfl
  rw [b8, bR, e]; rfl
theorem zV {α : Type} {ws r : List α} {k : Nat} (h : ws.drop k = r) : ws.drop (k + 1) = r.tail := by rw [← h, List.tail_drop]
theorem drop_lt {α : Type} {ws : List α} {k : Nat} {w : α} {r : List α} (h : ws.drop k = w :: r) : k < ws.length := Nat.lt_of_not_le fun n => by rw [lC n] at h; cases h
theorem Bq {α : Type} {ws : List α} {k : Nat} (h : ws.drop k = []) : ¬ k < ws.length := a7.mpr (zr.mp h)
section
variable {W : Wd} {n : Nat} {σ : List MO}
theorem zG (hW : Wk W) {Q : FX} {v0 v1 k : V} {m : Nat} {b o t F : List Ln} {w : String} (hw : OkW w) (hb : LsOk b) (ho : LsOk o) (ht : LsOk t) (gb : ∀ x ∈ b, Gd x) (go : ∀ x ∈ o, Gd x) (gt : ∀ x ∈ t, Gd x) (hz : F.length + (nt w b o t).length ≤ 16777215)
    (q : Q .next [v0, v1, .d (.int m), .hd 0, k, .d (vf (.conf b o t)), .d (.str w)] [.list ((F ++ nt w b o t).map .bytes)]) :
    fE (CallP W (n + 3)) [v0, v1, .d (.int m), .hd 0, k, .d (vf (.conf b o t)), .d (.str w)] [.list (F.map .bytes)] Q := by
  have z : ∀ {l : List Ln}, l = nt w b o t → (F.map D.bytes).length + (l.map D.bytes).length ≤ 16777216 := fun e => by
    rw [e, ah, ah]; exact bg hz
  rw [aB] at q
  induction hw using OkW.casesOn with
  | base => exact aw (.eq (.atom (.str _ _))) (aN (by decide) (aw (.eq (.atom (.str _ _))) (a6 (by decide) (af (.extend rfl rfl (z (if_pos rfl).symm)) q))))
  | theirs => exact aw (.eq (.atom (.str _ _))) (aN (by decide) (aw (.eq (.atom (.str _ _))) (aN (by decide) (aw (.eq (.atom (.str _ _))) (a6 (by decide) (af (.extend rfl rfl (z rfl)) q))))))
  | ours => exact aw (.eq (.atom (.str _ _))) (aN (by decide) (aw (.eq (.atom (.str _ _))) (aN (by decide) (aw (.eq (.atom (.str _ _))) (aN (by decide) (aw (.eq (.atom (.str _ _))) (aN (by decide) (af (.extend rfl rfl (z rfl)) q))))))))
  | both =>
    refine aw (.eq (.atom (.str _ _))) (aN (by decide) (aw (.eq (.atom (.str _ _))) (aN (by decide) (aw (.eq (.atom (.str _ _))) (aN (by decide) (aw (.eq (.atom (.str _ _))) (a6 (by decide) ?_)))))))
    refine kK hW (u := "conflict") (a := b) (b := o) (c := t) (ab (aA ho.n ht.n) (by decide)) ?_
    rw [tg go gt]
    refine d9 hW (l := o) (ab ho.n (by decide)) (by decide) (fun x m => ab (ho.x x m) (by decide)) ?_
    rw [dS go]
    exact af (bW (a := o) (b := t) (ab (aA ho.n ht.n) (by decide))) (af (.extend rfl rfl (z rfl)) q)
theorem zI (hW : Wk W) {Q : FX} {v0 v1 k : V} {m : Nat} {b o t F : List Ln} (hm : m ≤ 10) (hb : LsOk b) (ho : LsOk o) (ht : LsOk t) (gb : ∀ x ∈ b, Gd x) (go : ∀ x ∈ o, Gd x) (gt : ∀ x ∈ t, Gd x) (hz : F.length + (de m o b t).length ≤ 16777215)
    (q : Q .next [v0, v1, .d (.int m), .hd 0, k, .d (vf (.conf b o t)), .d (.str "conflict")] [.list ((F ++ de m o b t).map .bytes)]) :
    fE (CallP W (n + 3)) [v0, v1, .d (.int m), .hd 0, k, .d (vf (.conf b o t)), .d (.str "conflict")] [.list (F.map .bytes)] Q := by
  rw [aB] at q
  have nm : vk "" := ⟨by decide, by decide⟩
  have bx : ∀ {l : List Ln}, LsOk l → ∀ x ∈ l, x.length ≤ 1000000 := fun h x m => ab (h.x x m) (by decide)
  have bn : ∀ {l : List Ln}, LsOk l → l.length ≤ 1000000 := fun h => ab h.n (by decide)
  have sb := zA (m := m) gb go gt
  refine aw (.eq (.atom (.str _ _))) (a6 (by decide) (af (.d rfl) (aw (.eq (dR rfl)) ?_)))
  have fin : bm2 .extend (exK [v0, v1, .d (.int m), .hd 0, k, .d (vf (.conf b o t)), .d (.str "conflict")] (gZ aq Q)) (.hd 0) [.d (c5 (de m o b t))] [.list (F.map .bytes)] := af (.extend rfl rfl (by rw [ah, ah]; exact bg hz)) q
  rw [← sb] at fin
  by_cases e : b = []
  · rw [decide_eq_false fun n => n e] at fin
    exact cy (map_nil'.mpr e) (gm hW (d3 := false) (b := b) (o := o) (t := t) (ab hm (by decide)) nm nm nm (bn hb) (bn ho) (bn ht) (bx hb) (bx ho) (bx ht) fin)
  · rw [decide_eq_true e] at fin
    exact cn (fun h => e (map_nil'.mp h)) (gm hW (d3 := true) (b := b) (o := o) (t := t) (ab hm (by decide)) nm nm nm (bn hb) (bn ho) (bn ht) (bx hb) (bx ho) (bx ht) fin)
theorem qc (hW : Wk W) {Q : FX} {v0 : V} {m : Nat} {ws : List String} (hm : m ≤ 10) (hw : ∀ u ∈ ws, OkW u) : ∀ (ps : List Pc) {us : List String} {F : List Ln} {k : Nat} {v5 v6 : V}, ws.drop k = us → (∀ p ∈ ps, PcOk p) → (∀ p ∈ ps, Ad p) → F.length + (i5 m ps us).length ≤ 16777215 →
    (∀ v4 v5 v6, Q .next [v0, .d (.lst (ws.map .str)), .d (.int m), .hd 0, v4, v5, v6] [.list ((F ++ i5 m ps us).map .bytes)]) →
    gl (iJ (CallP W (n + 4))) 5 (ps.map vf) [v0, .d (.lst (ws.map .str)), .d (.int m), .hd 0, .d (.int k), v5, v6] [.list (F.map .bytes)] Q
  | [], us, F, k, v5, v6, _, _, _, _, q => by rw [show i5 m [] us = [] from rfl, ar] at q; exact q _ _ _
  | .plain l :: ps, us, F, k, v5, v6, hk, ok, gd, hz, q => by
    rw [show i5 m (.plain l :: ps) us = l ++ i5 m ps us from rfl] at q hz
    rw [← ag] at q
    rw [ac, ← aZ] at hz
    have := qc hW hm hw ps (F := F ++ l) (k := k) (v5 := .d (vf (.plain l))) (v6 := .d .none) hk (fun p h => ok p (.tail _ h)) (fun p h => gd p (.tail _ h)) (by rw [ac]; exact hz) q
    rw [aB] at this
    refine aw (.eq (.atom (.str _ _))) (aN (by decide) ?_)
    refine aw (.eq (.atom (.noneS _))) (aN rfl (aw (.eq (.atom (.noneS _))) (aN rfl (aw (.eq (.atom (.noneS _))) (aN rfl (aw (.eq (.atom (.noneS _))) (aN rfl (af (.extend rfl rfl ?_) this))))))))
    rw [ah, ah]; exact bg (aG hz)
  | .conf b o t :: ps, us, F, k, v5, v6, hk, ok, gd, hz, q => by
    rw [show i5 m (.conf b o t :: ps) us = jV m b o t us ++ i5 m ps us.tail from rfl] at q hz
    rw [← ag] at q
    rw [ac, ← aZ] at hz
    have next := fun v6 => qc hW hm hw ps (F := F ++ jV m b o t us) (k := k + 1) (v5 := .d (vf (.conf b o t))) (v6 := v6) (zV hk) (fun p h => ok p (.tail _ h)) (fun p h => gd p (.tail _ h)) (by rw [ac]; exact hz) q
    cases ok _ (.head _) with | conf hb ho ht =>
    cases gd _ (.head _) with | conf gb go gt =>
    refine aw (.eq (.atom (.str _ _))) (a6 (by decide) (af (.lenL rfl) ?_))
    induction us using List.casesOn with
    | nil =>
      refine cn (fP (Bq hk)) ?_
      exact zI hW hm hb ho ht gb go gt (aG hz) (next _)
    | cons w us =>
      refine cy (lN (drop_lt hk)) (aM (.it rfl (av _) (str_get hk)) ?_)
      exact zG hW (hw w (zo (i := k) (by rw [hk]; exact .head _))) hb ho ht gb go gt (aG hz) (next _)
theorem AM {m : Nat} {b o t : List Ln} {us : List String} (hb : LsOk b) (ho : LsOk o) (ht : LsOk t) : (jV m b o t us).length ≤ 184 := by
  have := hb.n; have := ho.n; have := ht.n
  induction us using List.casesOn with
  | nil =>
    show (de m o b t).length ≤ _
    unfold de
    split
    · simp only [ac, ao, bK]; exact aH (.l .A (.n 60) (.l .B (.n 60) (.p (.a (.a (.a (.a (.a (.a .O .I) .A) .O) (.a .O .I)) .B) (.a .O .I)) (.n 184)))) rf [_,_] [] (by assumption) this
    · simp only [ac, ao, bK]; exact aH (.l .A (.n 60) (.l .B (.n 60) (.l .C (.n 60) (.p (.a (.a (.a (.a (.a (.a .O .I) .B) (.a .A .I)) (.a .O .I)) .C) (.a .O .I)) (.n 184))))) rf [_,_,_] [] (by assumption) (by assumption) this
  | cons w us =>
    show (nt w b o t).length ≤ _
    unfold nt
    split
    · exact aH (.l .A (.n 60) (.p .A (.n 184))) rf [_] [] (by assumption)
    split
    · exact aH (.l .A (.n 60) (.p .A (.n 184))) rf [_] [] this
    split
    · rw [ac]; exact aH (.l .A (.n 60) (.l .B (.n 60) (.p (.a .A .B) (.n 184)))) rf [_,_] [] (by assumption) this
    · exact aH (.l .A (.n 60) (.p .A (.n 184))) rf [_] [] (by assumption)
theorem sT {m : Nat} : ∀ {ps : List Pc} {us : List String}, (∀ p ∈ ps, PcOk p) → (i5 m ps us).length ≤ ps.length * 184
  | [], us, _ => aY _
  | p :: ps, us, ok => by
    have ih : ∀ us, (i5 m ps us).length ≤ ps.length * 184 := fun us => sT fun p m => ok p (.tail _ m)
    rw [ao, jo, bq]
    cases ok p (.head _) with
    | plain h => show (_ ++ i5 m ps us).length ≤ _; rw [ac]; exact aA (ab h.n (by decide)) (ih _)
    | conf hb ho ht => show (jV m _ _ _ us ++ i5 m ps us.tail).length ≤ _; rw [ac]; exact aA (AM hb ho ht) (ih _)
noncomputable def fT (m : Nat) : List Ent → List String → List Ln
  | [], _ => []
  | .ln l :: r, ws => l :: fT m r ws
  | .cf b o t :: r, ws => jV m b o t ws ++ fT m r ws.tail
theorem rZ {m : Nat} : ∀ (es : List Ent) (pl : List Ln) (ws : List String), i5 m (gj pl es) ws = pl ++ fT m es ws
  | es, pl, ws => by
    have ap : ∀ ps, i5 m (c7 pl ++ ps) ws = pl ++ i5 m ps ws := fun ps => by
      unfold c7
      split
      · rename_i e; rw [e]; rfl
      · rfl
    match es with
    | [] => have := ap []; rw [ar] at this; exact this
    | .ln l :: es => exact (rZ es (pl ++ [l]) ws).trans (ag _ _ _)
    | .cf b o t :: es => exact (ap _).trans (congrArg (pl ++ ·) (congrArg (jV m b o t ws ++ ·) (rZ es [] ws.tail)))
structure EsGd (es : List Ent) : Prop where
  ln : ∀ l, Ent.ln l ∈ es → Gd l
  cf : ∀ b o t, Ent.cf b o t ∈ es → (∀ x ∈ b, Gd x) ∧ (∀ x ∈ o, Gd x) ∧ ∀ x ∈ t, Gd x
theorem EsGd.tail {e : Ent} {es : List Ent} (h : EsGd (e :: es)) : EsGd es := ⟨fun l m => h.ln l (.tail _ m), fun b o t m => h.cf b o t (.tail _ m)⟩
theorem vA : ∀ (es : List Ent) (pl : List Ln), EsGd es → (∀ x ∈ pl, Gd x) → ∀ p ∈ gj pl es, Ad p
  | es, pl, g, hp => by
    have ap : ∀ p ∈ c7 pl, Ad p := fun p h => by
      unfold c7 at h
      split at h
      · cases h
      · cases am.mp h; exact .plain hp
    match es, g with
    | [], _ => exact ap
    | .ln l :: es, g => exact vA es (pl ++ [l]) g.tail (fc hp (g.ln l (.head _)))
    | .cf b o t :: es, g =>
      exact fun p h => (bk.mp h).elim (ap p) fun h => by
        cases h with
        | head => exact have ⟨a, b, c⟩ := g.cf b o t (.head _); .conf a b c
        | tail _ h => exact vA es [] g.tail nofun p h
theorem og (hW : Wk W) {Q : VQ} {b : Ln} {ws : List String} {m : Nat} {es : List Ent} (hm : m ≤ 10) (hb : b.length ≤ 100000) (h : Evs m (bU b) es) (ok : EsOk es) (gd : EsGd es) (hw : ∀ u ∈ ws, OkW u) (hf : (fT m es ws).flatten.length ≤ 16777216) (q : Q (.d (.bytes (fT m es ws).flatten)) σ) :
    CallP W (n + 5) 554 [.d (.bytes b), .d (.lst (ws.map .str)), .d (.int m)] σ Q := by
  refine nD hW (ws := [.d (.bytes b), .d (.lst (ws.map .str)), .d (.int m)]) rfl rfl rfl ?_
  refine af (.hd rfl) (fS hW (ab hm (by decide)) hb h (ef (d := .lst _) rfl ?_))
  have e := rZ (m := m) es [] ws
  refine qc hW hm hw (gj [] es) (us := ws) (F := []) (k := 0) rfl ok.pc (vA es [] gd nofun) ?_ fun v4 v5 v6 => ?_
  · exact ab (aW (aS _)) (ab (sT ok.pc) (ab (aT 184 (ab ((iP es []).2 rfl) ok.n)) (by decide)))
  · rw [e]; exact af (.joinB rfl hf) q
end
noncomputable def kC (o : Option Nat) : Char := match o with | some 0 => '0' | some 1 => '1' | some 2 => '2' | some 3 => '3' | _ => '.'
noncomputable def i7 (o : Option Nat) : String := String.singleton (kC o)
theorem rV {l : Ln} {m t : Nat} (h : bD l m = some t) : t < 4 := by
  unfold bD at h
  induction l using List.casesOn with
  | nil => cases h
  | cons x r =>
    obtain ⟨i, h1, h2⟩ := b7.mp h
    have := yH h1
    split at h2
    · cases h2
    split at h2
    · cases h2; exact this
    split at h2
    · cases h2; exact this
    · cases h2
theorem AE {k : Nat} (h : k < 4) : uY (qG k) = some k := by
  rcases k with _ | _ | _ | _ | k
  · rfl
  · rfl
  · rfl
  · rfl
  · exact absurd h (a7.mpr (aK 4 k))
theorem wz {l : Ln} {m k : Nat} (hm : 1 ≤ m) (hk : k < 4) (h : l.take m = ay m (qG k)) (h' : l.drop m = [10] ∨ ((l.drop m).take 1 = [32] ∧ k ≠ 2)) : bD l m = some k := by
  obtain ⟨m, rfl⟩ := xf hm
  induction l using List.casesOn with
  | nil => rw [vZ, fQ] at h; cases h
  | cons x r =>
    have hx : x = qG k := by rw [List.take_succ_cons, fQ] at h; exact (eY.inj h).1
    unfold bD
    dsimp only
    rw [show uY x = some k by rw [hx]; exact AE hk, qR, if_neg fun n => n h]
    rcases h' with e | ⟨e, e'⟩
    · exact if_pos (.inr (.inl e))
    · by_cases c : List.drop (m + 1) (x :: r) = [] ∨ List.drop (m + 1) (x :: r) = [10] ∨ List.drop (m + 1) (x :: r) = [13, 10]
      · exact if_pos c
      · rw [if_neg c, if_pos ⟨e', e⟩]
theorem AV {l : Ln} {m k : Nat} (g : Gd l) (hm : 1 ≤ m) (h : bD l m = some k) : l.take m = ay m (qG k) ∧ (l.drop m = [10] ∨ ((l.drop m).take 1 = [32] ∧ k ≠ 2)) := by
  obtain ⟨r, rfl, hr, _⟩ := g.ex
  have hd : ∀ {k}, (r ++ [10]).take m = ay m (qG k) → (r ++ [10]).drop m ≠ [] := fun {k} e n => by
    rw [xn (zr.mp n)] at e
    have := fZ (e ▸ aR r (.head _) : (10 : UInt8) ∈ ay m (qG k))
    revert this; unfold qG; split <;> decide
  have hd' : (r ++ [10]).drop m ≠ [13, 10] := fun n => by
    have e := mv m (r ++ [10])
    rw [n] at e
    have e2 := (List.append_inj' ((ag _ [13] [10]).trans e) rfl).1
    exact (hr 13 (by rw [← e2]; exact aR _ (.head _))).2 rfl
  generalize r ++ [10] = l at h hd hd'
  unfold bD at h
  induction l using List.casesOn with
  | nil => cases h
  | cons x r =>
    obtain ⟨i, _, h2⟩ := b7.mp h
    split at h2
    · cases h2
    rename_i c
    have c := Decidable.not_not.mp c
    split at h2
    · rename_i d; cases h2
      rcases d with d | d | d
      · exact (hd c d).elim
      · exact ⟨c, .inl d⟩
      · exact (hd' d).elim
    split at h2
    · rename_i d; cases h2; exact ⟨c, .inr ⟨d.2, d.1⟩⟩
    · cases h2
section
variable {W : Wd} {n : Nat} {σ : List MO} {Q : VQ}
theorem zO {Q : FX} {l : Ln} {m k : Nat} {e : V} (hk : k < 4) (hm : m ≤ 1000) (nx : ¬ (l.take m = ay m (qG k) ∧ (l.drop m = [10] ∨ ((l.drop m).take 1 = [32] ∧ k ≠ 2))) → Q .next [.d (.bytes l), .d (.int m), .d (.int k), .d (.bytes (l.drop m))] [])
    (yes : l.take m = ay m (qG k) ∧ (l.drop m = [10] ∨ ((l.drop m).take 1 = [32] ∧ k ≠ 2)) → Q (.ret (.str (i7 (some k)))) [.d (.bytes l), .d (.int m), .d (.int k), .d (.bytes (l.drop m))] []) : jN [.d (.bytes l), .d (.int m), .d (.int k), e] [] Q := by
  refine bH (.bytes _) ?_
  rw [kj]
  refine bH (.bytes _) (bH (.bytes _) ?_)
  rw [ez, jq hk]
  refine af (mulS hm) (aw (.eq (.atom kR)) ?_)
  have yes := fun h => (show ∀ q : Q (.ret (.str (i7 (some k)))) [.d (.bytes l), .d (.int m), .d (.int k), .d (.bytes (l.drop m))] [], idxK (retK [.d (.bytes l), .d (.int m), .d (.int k), .d (.bytes (l.drop m))] (gZ aq (gZ aq Q))) (.d (.str "0123")) (.d (.int k)) [] from fun q => aM (.str (av _) (by decide) (by
    rcases k with _ | _ | _ | _ | k
    · rfl
    · rfl
    · rfl
    · rfl
    · exact absurd hk (a7.mpr (aK 4 k)))) q) (yes h)
  by_cases c1 : l.take m = ay m (qG k)
  · refine cy c1 (aw (.eq (.atom kR)) ?_)
    by_cases c2 : l.drop m = [10]
    · exact cy c2 (a6 rfl (a6 rfl (yes ⟨c1, .inl c2⟩)))
    · refine cn c2 (bH (.bytes _) (aw (.eq (.atom kR)) ?_))
      rw [show a9 (l.drop m) none (some 1) = (l.drop m).take 1 from ez (l.drop m) 1]
      by_cases c3 : (l.drop m).take 1 = [32]
      · refine cy c3 (aw (fe (.atom (.int _ _))) ?_)
        by_cases c4 : k = 2
        · exact cn (fun h => h (congrArg _ c4)) (aN rfl (aN rfl (aN rfl (nx fun h => h.2.elim c2 fun h => h.2 c4))))
        · exact cy (fun h => c4 (ly.inj h)) (a6 rfl (a6 rfl (a6 rfl (yes ⟨c1, .inr ⟨c3, c4⟩⟩))))
      · exact cn c3 (aN rfl (aN rfl (aN rfl (nx fun h => h.2.elim c2 fun h => c3 h.1))))
  · exact cn c1 (aN rfl (nx fun h => c1 h.1))
theorem qN (hW : Wk W) {l : Ln} {m : Nat} (g : Gd l) (h1 : 1 ≤ m) (hm : m ≤ 1000) (q : Q (.d (.str (i7 (bD l m)))) σ) : CallP W (n + 1) 582 [.d (.bytes l), .d (.int m)] σ Q := by
  refine nD hW rfl rfl rfl ?_
  refine af (.range1 _) (ef (d := .rng 0 4 1) (ds := [.int (0 : Nat), .int (1 : Nat), .int (2 : Nat), .int (3 : Nat)]) rfl ?_)
  have st : ∀ {k : Nat} {e : V} {Q' : FX}, k < 4 → (bD l m ≠ some k → Q' .next [.d (.bytes l), .d (.int m), .d (.int k), .d (.bytes (l.drop m))] []) → (∀ ρ, Q (.d (.str (i7 (bD l m)))) σ → Q' (.ret (.str (i7 (bD l m)))) ρ []) → jN [.d (.bytes l), .d (.int m), .d (.int k), e] [] Q' := fun {k e Q'} hk nx yes =>
    zO hk hm (fun h => nx fun e => h (AV g h1 e)) fun h => by have e := wz h1 hk h.1 h.2; rw [← e]; exact yes _ q
  refine st (k := 0) (by decide) (fun n0 => ?_) fun ρ q => q
  refine st (k := 1) (by decide) (fun n1 => ?_) fun ρ q => q
  refine st (k := 2) (by decide) (fun n2 => ?_) fun ρ q => q
  refine st (k := 3) (by decide) (fun n3 => ?_) fun ρ q => q
  have e : bD l m = none := by
    cases h : bD l m with
    | none => rfl
    | some t =>
      have t4 : t < 4 := rV h
      rcases dg.mp t4 with t3 | rfl
      · rcases dg.mp t3 with t2 | rfl
        · rcases dg.mp t2 with t1 | rfl
          · cases Nat.lt_one_iff.mp t1; exact (n0 h).elim
          · exact (n1 h).elim
        · exact (n2 h).elim
      · exact (n3 h).elim
  rw [e] at q
  exact q
theorem jw (hW : Wk W) {m : Nat} {a o t : List Ln} (hm : m ≤ 1000) (ha : a.length ≤ 1000000) (ho : o.length ≤ 1000000) (ht : t.length ≤ 1000000) (q : Q (.d (c5 (de m a o t))) σ) : CallP W (n + 2) 594 [.d (c5 a), .d (c5 o), .d (c5 t), .d (.int m)] σ Q := by
  refine nD hW (ws := [.d (c5 a), .d (c5 o), .d (c5 t), .d (.int m)]) rfl rfl rfl ?_
  have fin : ∀ mid : List Ln, mid.length ≤ 1000001 → Q (.d (c5 ([cw 0 m []] ++ a ++ mid ++ [cw 2 m []] ++ t ++ [cw 3 m []]))) σ → gZ (nH (CallP W (n + 1))) (gM [] 0 σ Q) .next [.d (c5 a), .d (c5 o), .d (c5 t), .d (.int m), .d (c5 mid)] [] := fun mid hd q => by
    have l1 : ([cw 0 m []] ++ a).length ≤ 1000001 := by rw [ac, bq]; exact aj ha
    have l2 : ([cw 0 m []] ++ a ++ mid).length ≤ 2000002 := by rw [ac]; exact aA l1 hd
    have l3 : ([cw 0 m []] ++ a ++ mid ++ [cw 2 m []] ++ t).length ≤ 3000003 := by rw [ac, ac]; exact aA (aj l2) ht
    refine iy hW (i := 0) (by decide) hm (by decide) (af (.d rfl) (af (bW (a := [cw 0 m []]) (b := a) (ab (by rw [← ac]; exact l1) (by decide))) ?_))
    refine af (bW (ab (aA l1 hd) (by decide))) ?_
    refine iy hW (i := 2) (by decide) hm (by decide) (af (.d rfl) (af (bW (b := [cw 2 m []]) (ab (aj l2) (by decide))) ?_))
    refine af (bW (ab (by rw [← ac]; exact l3) (by decide))) ?_
    exact iy hW (i := 3) (by decide) hm (by decide) (af (.d rfl) (af (bW (b := [cw 3 m []]) (ab (aj l3) (by decide))) q))
  unfold de at q
  refine af (.d rfl) (aw (fe (dR rfl)) ?_)
  by_cases h : o = []
  · rw [if_pos h] at q
    exact cn (fun n => n (map_nil'.mpr h)) (af (.d rfl) (fin [] (by decide) q))
  · rw [if_neg h] at q
    refine cy (fun n => h (map_nil'.mp n)) (iy hW (i := 1) (by decide) hm (by decide) (af (.d rfl) (af (bW (a := [cw 1 m []]) (b := o) ?_) (fin (cw 1 m [] :: o) (aj ho) q))))
    rw [bq]; exact ab (aj ho) (by decide)
noncomputable def oneL (x : Int) : Ln := [(97 + x).toNat.toUInt8, 10]
noncomputable def jp (x : Int) : List Ln := ([oneL (x / 3 % 3), oneL (x / 9 % 3)]).take (x % 3).toNat
theorem ju {x k : Int} (h : 0 < k) : BinR σ .Mod (.d (.int x)) (.d (.int k)) (.d (.int (x % k))) σ := by
  have := BinR.modI (σ := σ) (i := x) (j := k) (Int.ne_of_gt h)
  rw [fJ _ (l9 h)] at this; exact this
theorem qP {x k : Int} (h : 0 < k) (h' : k.natAbs < 1073741824) : BinR σ .FloorDiv (.d (.int x)) (.d (.int k)) (.d (.int (x / k))) σ := by
  have := BinR.divI (σ := σ) (i := x) (j := k) (Int.ne_of_gt h) h'
  rw [jS _ (l9 h)] at this; exact this
theorem BB {y : V} {x : Int} (h : cu σ y = some [.int x]) (h0 : 0 ≤ x) (h1 : x < 256) : BiR σ .bytes [y] (.d (.bytes [x.toNat.toUInt8])) σ := .bytesI (ns := [x]) h (dD ⟨h0, h1⟩)
theorem lP (hW : Wk W) {x : Int} (q : Q (.d (c5 (jp x))) σ) : CallP W (n + 1) 568 [.d (.int x)] σ Q := by
  unfold jp at q
  refine nD hW rfl rfl rfl ?_
  have m0 : ∀ {y : Int}, 0 ≤ 97 + y % 3 ∧ 97 + y % 3 < 256 := fun {y} => by have := bV y (b := 3) (by decide); have := cM y (b := 3) (by decide); exact ⟨aH (.L .O .A (.P .O (.a (.n 97) .A))) rf [] [_] (by assumption), aH (.T .A (.n 3) (.Q (.a (.n 97) .A) (.n 256))) rf [] [_] this⟩
  refine af (qP (by decide) (zl (by decide))) (af (ju (by decide)) (af (.d rfl) (af (BB rfl m0.1 m0.2) (af (.addB (aP rfl)) ?_))))
  refine af (qP (by decide) (zl (by decide))) (af (ju (by decide)) (af (.d rfl) (af (BB rfl m0.1 m0.2) (af (.addB (aP rfl)) ?_))))
  refine af (.d rfl) (af (ju (by decide)) (bH (.lst rfl) ?_))
  rw [← aE (bV x (b := 3) (by decide)), ez]
  unfold c5 at q
  rw [wa] at q
  exact q
end
noncomputable def wk (i m : Nat) : List Ln := [cw i (m + 1) [], cw i (m + 1) [32, 110], cw i (m + 2) [], cw i m [], 60 :: cw 0 m [120], [10]]
noncomputable def iZ (y : Int) (m : Nat) : List Ln :=
  if y % 5 < 2 then [oneL ((y / 5).natAbs % 4)]
  else if y % 5 = 4 then [(wk (((y / 5).natAbs : Int) % 4).toNat m).getD (((y / 5).natAbs : Int) / 4 % 6).toNat []]
  else [cw 0 (m + 1) [32, 109, 105, 110, 101]] ++ jp (y / 5).natAbs ++ (if y % 5 = 3 then cw 1 (m + 1) [32, 111, 108, 100] :: jp ((y / 5).natAbs / 7) else []) ++ [cw 2 (m + 1) []] ++ jp ((y / 5).natAbs / 27) ++ [cw 3 (m + 1) [32, 121, 111, 117, 114, 115]]
theorem iV {x : Int} : (jp x).length ≤ 2 := zq _ _
section
variable {W : Wd} {n : Nat} {σ : List MO} {Q : VQ}
theorem sS {k : Nat} (h : uR (k + 1) 1073741823 = true) : k < 1073741824 := fo (aP h)
theorem yI (hW : Wk W) {i m : Nat} {mi : Int} {name : Ln} (e : mi = m) (hi : i < 4) (hm : m ≤ 1000) (hn : name.length ≤ 1000) (q : Q (.d (.bytes (cw i m name))) σ) : CallP W (n + 1) 561 [.d (.int i), .d (.int mi), .d (.bytes name)] σ Q := by subst e; exact iy hW hi hm hn q
theorem vy (hW : Wk W) {y : Int} {m : Nat} (hm : m + 2 ≤ 1000) (q : Q (.d (c5 (iZ y m))) σ) : CallP W (n + 2) 575 [.d (.int y), .d (.int (m + 1 : Nat))] σ Q := by
  have hm1 : m + 1 ≤ 1000 := bf hm
  have hm0 : m ≤ 1000 := bf hm1
  unfold iZ at q
  refine nD hW rfl rfl rfl ?_
  refine af (ju (by decide)) (af (qP (by decide) (sS rfl)) (af (.abs _) ?_))
  generalize (y / 5).natAbs = M at q ⊢
  generalize y % 5 = w at q ⊢
  have m4 : 0 ≤ (M : Int) % 4 ∧ (M : Int) % 4 < 4 := ⟨bV _ (by decide), cM _ (by decide)⟩
  by_cases c1 : w < 2
  · rw [if_pos c1] at q
    exact cy c1 (af (ju (by decide)) (af (.d rfl) (af (BB rfl (by exact aH (.L .O .A (.P .O (.a (.n 97) .A))) rf [] [_] m4.1) (by exact aH (.T .A (.n 4) (.Q (.a (.n 97) .A) (.n 256))) rf [] [_] m4.2)) (af (.addB (aP rfl)) (af (.d rfl) q)))))
  rw [if_neg c1] at q
  refine cn c1 ?_
  by_cases c2 : w = 4
  · rw [if_pos c2] at q
    refine cy c2 (af (ju (by decide)) ?_)
    obtain ⟨i, hi⟩ := bF m4.1
    rw [hi, b8] at q
    have i4 : i < 4 := bj.mp (hi ▸ m4.2)
    rw [hi]
    refine iy hW (m := m + 1) i4 hm1 (by decide) (af (ju (by decide)) ?_)
    rw [hi]
    refine iy hW (m := m + 1) i4 hm1 (by decide) (af (ju (by decide)) ?_)
    rw [hi]
    refine iy hW (m := m + 2) i4 hm (by decide) (af (.d rfl) (af (ju (by decide)) ?_))
    rw [hi]
    have e1 : ((m + 1 : Nat) : Int) - 1 = m := by rw [lA, cP]
    refine yI hW (m := m) e1 i4 hm0 (by decide) ?_
    refine yI hW (i := 0) (m := m) e1 (by decide) hm0 (by decide) (af (.addB ?_) (af (.d rfl) (af (bW (a := [cw i (m + 1) [], cw i (m + 1) [32, 110], cw i (m + 2) []]) (b := [cw i m [], 60 :: cw 0 m [120], [10]]) (aP rfl)) ?_)))
    · show 1 + (cw 0 m [120]).length ≤ _
      unfold cw
      rw [ac, ac, be]; show 1 + (m + 1 + 1) ≤ _; exact aH (.l (.a .A (.n 2)) (.n 1000) (.p (.a .I (.a (.a .A .I) .I)) (.n 16777216))) rf [_] [] hm
    refine af (qP (by decide) (sS rfl)) (af (ju (by decide)) (aM (.it rfl (bV _ (by decide)) ?_) (af (.d rfl) q)))
    have h6 : ((M : Int) / 4 % 6).toNat < 6 := (rM (bV _ (by decide))).mpr (cM _ (by decide))
    rw [bR, fA]
    show ((wk i m)[_]?).map _ = _
    rw [aO (l := wk i m) h6]; rfl
  · rw [if_neg c2] at q
    refine cn c2 ?_
    have fin : ∀ mid : List Ln, mid.length ≤ 3 → Q (.d (c5 ([cw 0 (m + 1) [32, 109, 105, 110, 101]] ++ jp M ++ mid ++ [cw 2 (m + 1) []] ++ jp (M / 27) ++ [cw 3 (m + 1) [32, 121, 111, 117, 114, 115]]))) σ → gZ (lX (CallP W (n + 1))) (gM [] 0 σ Q) .next [.d (.int y), .d (.int (m + 1 : Nat)), .d (.int w), .d (.int M), .un, .d (c5 mid), .un] [] := fun mid hd q => by
      have s1 := iV (x := M)
      have s2 := iV (x := M / 27)
      have a1 : ([cw 0 (m + 1) [32, 109, 105, 110, 101]] ++ jp M).length ≤ 3 := by rw [ac, bq]; exact aj s1
      have a2 : ([cw 0 (m + 1) [32, 109, 105, 110, 101]] ++ jp M ++ mid).length ≤ 6 := by rw [ac]; exact aA a1 hd
      have a3 : ([cw 0 (m + 1) [32, 109, 105, 110, 101]] ++ jp M ++ mid ++ [cw 2 (m + 1) []] ++ jp (M / 27)).length ≤ 9 := by rw [ac, ac]; exact aA (aj a2) s2
      refine iy hW (i := 0) (m := m + 1) (by decide) hm1 (by decide) (af (.d rfl) (lP hW (af (bW (a := [cw 0 (m + 1) [32, 109, 105, 110, 101]]) (ab (by rw [← ac]; exact a1) (by decide))) ?_)))
      refine af (bW (ab (aA a1 hd) (by decide))) ?_
      refine iy hW (i := 2) (m := m + 1) (by decide) hm1 (by decide) (af (.d rfl) (af (bW (b := [cw 2 (m + 1) []]) (ab (aj a2) (by decide))) ?_))
      refine af (qP (by decide) (sS rfl)) (lP hW (af (bW (ab (by rw [← ac]; exact a3) (by decide))) ?_))
      exact iy hW (i := 3) (m := m + 1) (by decide) hm1 (by decide) (af (.d rfl) (af (bW (b := [cw 3 (m + 1) [32, 121, 111, 117, 114, 115]]) (ab (aj a3) (by decide))) q))
    by_cases c3 : w = 3
    · rw [if_pos c3] at q
      refine cy c3 (iy hW (i := 1) (m := m + 1) (by decide) hm1 (by decide) (af (.d rfl) (af (qP (by decide) (sS rfl)) (lP hW (af (bW (a := [cw 1 (m + 1) [32, 111, 108, 100]]) (ab (br iV 1) (by decide))) (fin (cw 1 (m + 1) [32, 111, 108, 100] :: jp (M / 7)) (aj iV) q))))))
    · rw [if_neg c3] at q
      exact cn c3 (af (.d rfl) (fin [] (by decide) q))
end
noncomputable def kH (m : Nat) (rest : List Ln) : Char := match rest with | l :: _ => kC (bD l m) | [] => 'x'
noncomputable def wS (i : Nat) : String := match i with | 0 => "0" | 1 => "1" | 2 => "2" | _ => "3"
theorem kq : ∀ t, t < 4 → ∀ i, i < 4 → (String.singleton (kC (some t)) == wS i) = decide (t = i) := by decide +kernel
theorem kq_dot : ∀ i, i < 4 → (String.singleton '.' == wS i) = false := by decide +kernel
theorem kq_x : ∀ i, i < 4 → (String.singleton 'x' == wS i) = false := by decide +kernel
theorem kd : ∀ t, t < 4 → (String.singleton (kC (some t)) == ".") = false := by decide +kernel
theorem Aa {a b : String} {r : Bool} (h : (a == b) = r) : Atom (.str a) (.str b) r := h ▸ .str a b
inductive NoDot (m : Nat) : List Ln → Prop
  | nil : NoDot m []
  | cons {l r t} (h : bD l m = some t) : NoDot m (l :: r)
theorem NoDot.dot {m : Nat} {rest : List Ln} (h : NoDot m rest) : (String.singleton (kH m rest) == ".") = false := by
  induction h using NoDot.casesOn with
  | nil => exact (by decide : (String.singleton 'x' == ".") = false)
  | cons h => show (String.singleton (kC (bD _ m)) == ".") = false; rw [h]; exact kd _ (rV h)
theorem kh_no {m i : Nat} {rest : List Ln} (hi : i < 4) (h : ∀ l, rest.head? = some l → bD l m ≠ some i) : (String.singleton (kH m rest) == wS i) = false := by
  induction rest using List.casesOn with
  | nil => exact kq_x i hi
  | cons l r =>
    show (String.singleton (kC (bD l m)) == wS i) = false
    cases e : bD l m with
    | none => exact kq_dot i hi
    | some t => rw [kq t (rV e) i hi]; exact decide_eq_false fun q => h l rfl (q ▸ e)
theorem A4 {m i : Nat} {l : Ln} {r : List Ln} (hi : i < 4) (h : bD l m = some i) : (String.singleton (kH m (l :: r)) == wS i) = true := by
  show (String.singleton (kC (bD l m)) == wS i) = true
  rw [h, kq i hi i hi]; exact decide_eq_true rfl
theorem Rd.dots {m : Nat} {o : uf} {ls : List Ln} {k : Nat} {p0 p1 p2 : List Ln} (h : Rd m o ls k p0 p1 p2) : ∃ d rest, ls = d ++ rest ∧ (∀ l ∈ d, bD l m = none) ∧ NoDot m rest ∧ Rd m o rest k (if k = 0 then p0 ++ d else p0) (if k = 1 then p1 ++ d else p1) (if k = 2 then p2 ++ d else p2) := by
  have e : ∀ {p0 p1 p2 : List Ln} {k : Nat} {ls : List Ln}, Rd m o ls k p0 p1 p2 → Rd m o ls k (if k = 0 then p0 ++ [] else p0) (if k = 1 then p1 ++ [] else p1) (if k = 2 then p2 ++ [] else p2) := fun h => by
    rw [ar, ar, ar, ite_self, ite_self, ite_self]; exact h
  induction h with
  | nil a => exact ⟨[], [], rfl, nofun, .nil, e (.nil a)⟩
  | next h a b i => exact ⟨[], _, rfl, nofun, .cons h, e (.next h a b i)⟩
  | done h a => exact ⟨[], _, rfl, nofun, .cons h, e (.done h a)⟩
  | stop h a b c => exact ⟨[], _, rfl, nofun, .cons h, e (.stop h a b c)⟩
  | @put0 l r p0 p1 p2 h _ ih =>
    obtain ⟨d, rest, rfl, b, c, i⟩ := ih
    exact ⟨l :: d, rest, rfl, fun x m => by cases m with | head => exact h | tail _ m => exact b x m, c, by rw [if_pos rfl, ag] at i; rw [if_pos rfl]; exact i⟩
  | @put1 l r p0 p1 p2 h _ ih =>
    obtain ⟨d, rest, rfl, b, c, i⟩ := ih
    exact ⟨l :: d, rest, rfl, fun x m => by cases m with | head => exact h | tail _ m => exact b x m, c, by rw [if_pos (c := 1 = 1) rfl, ag] at i; rw [if_pos (c := 1 = 1) rfl]; exact i⟩
  | @put2 l r p0 p1 p2 h _ ih =>
    obtain ⟨d, rest, rfl, b, c, i⟩ := ih
    exact ⟨l :: d, rest, rfl, fun x m => by cases m with | head => exact h | tail _ m => exact b x m, c, by rw [if_pos (c := 2 = 2) rfl, ag] at i; rw [if_pos (c := 2 = 2) rfl]; exact i⟩
structure Kx (KX : String) (ls : List Ln) (m : Nat) : Prop where
  l : KX.toList = ls.map (fun l => kC (bD l m)) ++ ['x']
  z : KX.length ≤ 16777216
theorem Kx.at_ {KX : String} {ls pre rest : List Ln} {m : Nat} {σ : List MO} (h : Kx KX ls m) (hp : pre ++ rest = ls) : IdxR σ (.d (.str KX)) (.d (.int pre.length)) (.d (.str (String.singleton (kH m rest)))) := by
  refine .str (av _) h.z ?_
  rw [h.l, ← hp, aB, ag, b8, bp (aW (ah _)), ah, gT]
  induction rest using List.casesOn <;> rfl
noncomputable abbrev cV (ls : List Ln) (v1 : V) (KX : String) (f p v5 ends here want e9 e10 e11 e12 e13 : V) : List V := [.d (c5 ls), v1, .d (.str KX), f, p, v5, ends, here, want, e9, e10, e11, e12, e13]
section
variable {ls : List Ln} {v1 : V} {KX : String} {f p v5 ends e9 e10 e11 e12 e13 : V} {σ : List MO} {m i : Nat} {E : List D} {Q : FX}
theorem ul (hx : Kx KX ls m) (hi : i < 3) {rest : List Ln} (nd : NoDot m rest) : ∀ (d : List Ln) {pre : List Ln}, (∀ l ∈ d, bD l m = none) → (pre ++ d) ++ rest = ls → Q .next (cV ls v1 KX f p v5 ends (.d (.int ((pre ++ d).length : Nat))) (.d (.str (wS i))) e9 e10 e11 e12 e13) σ → cW pI pH (d.length + 1) (cV ls v1 KX f p v5 ends (.d (.int pre.length)) (.d (.str (wS i))) e9 e10 e11 e12 e13) σ Q
  | d, pre, hd, hp, q => by
    have h3 : (wS i == "3") = false := (by decide : ∀ i, i < 3 → (wS i == "3") = false) i hi
    refine aw (.ne (r := false) (.atom (Aa (h3)))) (a6 rfl ?_)
    induction d using List.casesOn with
    | nil =>
      rw [ar] at hp q
      exact aM (hx.at_ hp) (aw (.eq (.atom (Aa (nd.dot)))) (aN rfl (aN rfl q)))
    | cons l d =>
      have hl : (String.singleton (kH m (l :: (d ++ rest))) == ".") = true := by
        show (String.singleton (kC (bD l m)) == ".") = true
        rw [hd l (.head _)]; decide
      refine aM (hx.at_ (rest := l :: (d ++ rest)) ((ag pre (l :: d) rest).symm.trans hp)) (aw (.eq (.atom (Aa (hl)))) (a6 rfl (a6 rfl ?_)))
      have e : pre ++ l :: d = (pre ++ [l]) ++ d := (ag pre [l] d).symm
      rw [e] at hp q
      have := ul hx hi nd d (pre := pre ++ [l]) (fun x m => hd x (.tail _ m)) hp q
      rw [ac (as := pre) (bs := [l])] at this
      exact this
theorem sj (hx : Kx KX ls m) (hi : i < 3) {pre d rest : List Ln} {l : Ln} (hE : E.length ≤ 4) (hl : bD l m = some i) (hd : ∀ l ∈ d, bD l m = none) (nd : NoDot m rest) (hp : pre ++ l :: (d ++ rest) = ls)
    (q : Q .next (cV ls v1 KX f p v5 (.d (.lst (E ++ [.int pre.length]))) (.d (.int ((pre ++ l :: d).length : Nat))) (.d (.str (wS i))) e9 e10 e11 e12 e13) σ) :
    dq (cV ls v1 KX f p v5 (.d (.lst E)) (.d (.int pre.length)) (.d (.str (wS i))) e9 e10 e11 e12 e13) σ Q := by
  refine aM (hx.at_ hp) (aw (.eq (.atom (Aa (A4 (fo hi) hl)))) (a6 rfl ?_))
  refine af (.d rfl) (af (.addL rfl rfl (ab (aC hE 1) (by decide))) (iH (d.length + 1) ?_))
  have e : pre ++ l :: d = (pre ++ [l]) ++ d := (ag pre [l] d).symm
  rw [e] at q
  have := ul (Q := gZ aq (gZ aq Q)) hx hi nd d (pre := pre ++ [l]) hd (by rw [← e, ag]; exact hp) q
  rw [ac (as := pre) (bs := [l])] at this
  exact this
theorem Aq (hx : Kx KX ls m) {pre r : List Ln} {l : Ln} (hE : E.length ≤ 4) (hl : bD l m = some 3) (hp : pre ++ l :: r = ls)
    (q : Q .next (cV ls v1 KX f p v5 (.d (.lst (E ++ [.int pre.length]))) (.d (.int ((pre.length : Int) + 1))) (.d (.str "3")) e9 e10 e11 e12 e13) σ) :
    dq (cV ls v1 KX f p v5 (.d (.lst E)) (.d (.int pre.length)) (.d (.str "3")) e9 e10 e11 e12 e13) σ Q := by
  refine aM (hx.at_ hp) (aw (.eq (.atom (Aa (A4 (i := 3) (by decide) hl)))) (a6 rfl ?_))
  refine af (.d rfl) (af (.addL rfl rfl (ab (aC hE 1) (by decide))) (iH 1 ?_))
  exact aw (.ne (.atom (.str _ _))) (aN (by decide) (aN rfl q))
theorem rO (hx : Kx KX ls m) (hi : i < 4) (h1 : i ≠ 1) {pre rest : List Ln} (hp : pre ++ rest = ls) (h : ∀ l, rest.head? = some l → bD l m ≠ some i)
    (q : Q .brk (cV ls v1 KX f p v5 (.d .none) (.d (.int pre.length)) (.d (.str (wS i))) e9 e10 e11 e12 e13) σ) :
    dq (cV ls v1 KX f p v5 ends (.d (.int pre.length)) (.d (.str (wS i))) e9 e10 e11 e12 e13) σ Q := by
  have h3 : (wS i == "1") = false := (by decide : ∀ i, i < 4 → i ≠ 1 → (wS i == "1") = false) i hi h1
  exact aM (hx.at_ hp) (aw (.eq (.atom (Aa (kh_no hi h)))) (aN rfl (aw (.ne (r := false) (.atom (Aa (h3)))) (a6 rfl q))))
theorem zv (hx : Kx KX ls m) {pre rest : List Ln} (hE : E.length ≤ 4) (hp : pre ++ rest = ls) (h : ∀ l, rest.head? = some l → bD l m ≠ some 1)
    (q : Q .next (cV ls v1 KX f p v5 (.d (.lst (E ++ [.none]))) (.d (.int pre.length)) (.d (.str "1")) e9 e10 e11 e12 e13) σ) :
    dq (cV ls v1 KX f p v5 (.d (.lst E)) (.d (.int pre.length)) (.d (.str "1")) e9 e10 e11 e12 e13) σ Q :=
  aM (hx.at_ hp) (aw (.eq (.atom (Aa (kh_no (i := 1) (by decide) h)))) (aN rfl (aw (.ne (.atom (.str _ _))) (aN (by decide) (af (.d rfl) (af (.addL rfl rfl (ab (aC hE 1) (by decide))) q))))))
end
theorem u5 {ls P d rest : List Ln} {l : Ln} (hp : (P ++ l :: d) ++ rest = ls) : a9 ls (some ((P.length : Int) + 1)) (some (((P ++ l :: d).length : Nat) : Int)) = d := by
  have h := pW (P ++ [l]) d rest
  have e : (P ++ [l]) ++ d ++ rest = ls := by rw [← hp, ag P]; rfl
  have e' : (P ++ l :: d).length = (P ++ [l]).length + d.length := by rw [← ac, ag P]; rfl
  rw [e, ← e', ac (bs := [l])] at h
  exact h
noncomputable def z7 (bar : Option Nat) : D := match bar with | some b => .int b | none => .none
structure CutO (ls A : List Ln) (bar : Option Nat) (mid last : Nat) (p0 p1 p2 r : List Ln) : Prop where
  s0 : a9 ls (some ((A.length : Int) + 1)) (some ((bar.getD mid : Nat) : Int)) = p0
  s1 : ∀ b : Nat, bar = some b → a9 ls (some ((b : Int) + 1)) (some (mid : Int)) = p1
  s1' : bar = none → p1 = []
  s2 : a9 ls (some ((mid : Int) + 1)) (some (last : Int)) = p2
  pre : ∃ B : List Ln, B ++ r = ls ∧ B.length = last + 1
section
variable {W : Wd} {ls : List Ln} {v1 : V} {KX : String} {f p v5 e9 e10 e11 e12 e13 : V} {σ : List MO} {m : Nat} {o : uf} {Q : FX}
theorem stage3 (hx : Kx KX ls m) {P rest p0 p1 p2 : List Ln} {E : List D} {w : V} (hE : E.length ≤ 4) (hp : P ++ rest = ls) (nd : NoDot m rest) (h : Rd m o rest 2 p0 p1 p2)
    (qn : o = none → ∀ here want, Q .next (cV ls v1 KX f p v5 (.d .none) here want e9 e10 e11 e12 e13) σ)
    (qs : ∀ l r, rest = l :: r → o = some (p0, p1, p2, r) → ∀ here want, Q .next (cV ls v1 KX f p v5 (.d (.lst (E ++ [.int P.length]))) here want e9 e10 e11 e12 e13) σ) :
    gl dq 8 [.str "3"] (cV ls v1 KX f p v5 (.d (.lst E)) (.d (.int P.length)) w e9 e10 e11 e12 e13) σ Q := by
  cases h with
  | nil e => exact rO hx (i := 3) (by decide) (by decide) hp (fun _ h => bm h) (qn e _ _)
  | put2 h => cases nd with | cons h' => cases h.symm.trans h'
  | next _ a b => exact absurd b (a7.mpr a)
  | done h e => exact Aq hx hE h hp (qs _ _ rfl e _ _)
  | stop h a b e => exact rO hx (i := 3) (by decide) (by decide) hp (fun l c e => by cases c; cases h.symm.trans e; exact a ⟨rfl, rfl⟩) (qn e _ _)
theorem AA (hx : Kx KX ls m) {A P rest p0 p1 : List Ln} {k : Nat} {bar : Option Nat} {w : V} (hk : k < 2) (hp : P ++ rest = ls) (nd : NoDot m rest) (h : Rd m o rest k p0 p1 []) (no : k = 0 → ∀ l, rest.head? = some l → bD l m ≠ some 1)
    (s0 : a9 ls (some ((A.length : Int) + 1)) (some ((bar.getD P.length : Nat) : Int)) = p0) (s1 : ∀ b : Nat, bar = some b → a9 ls (some ((b : Int) + 1)) (some (P.length : Int)) = p1) (s1' : bar = none → p1 = [])
    (qn : o = none → ∀ here want, Q .next (cV ls v1 KX f p v5 (.d .none) here want e9 e10 e11 e12 e13) σ)
    (qs : ∀ bar mid last p0 p1 p2 r, o = some (p0, p1, p2, r) → CutO ls A bar mid last p0 p1 p2 r → ∀ here want, Q .next (cV ls v1 KX f p v5 (.d (.lst [.int A.length, z7 bar, .int mid, .int last])) here want e9 e10 e11 e12 e13) σ) :
    gl dq 8 [.str "2", .str "3"] (cV ls v1 KX f p v5 (.d (.lst [.int A.length, z7 bar])) (.d (.int P.length)) w e9 e10 e11 e12 e13) σ Q := by
  have fail : (∀ l, rest.head? = some l → bD l m ≠ some 2) → o = none → gl dq 8 [.str "2", .str "3"] (cV ls v1 KX f p v5 (.d (.lst [.int A.length, z7 bar])) (.d (.int P.length)) w e9 e10 e11 e12 e13) σ Q := fun n e =>
    rO hx (i := 2) (by decide) (by decide) hp n (qn e _ _)
  cases h with
  | nil e => exact fail (fun _ h => bm h) e
  | put0 h => cases nd with | cons h' => cases h.symm.trans h'
  | put1 h => cases nd with | cons h' => cases h.symm.trans h'
  | put2 h => exact absurd hk (by decide)
  | done h e => exact absurd hk (by decide)
  | stop h a b e => exact fail (fun l c e => by cases c; cases h.symm.trans e; exact b ⟨hk, by decide⟩) e
  | @next l r _ t _ _ _ h a b i =>
    have t2 : t = 2 := by
      match t, a, b with
      | 0, a, _ => exact absurd a (gc _)
      | 1, a, _ => exact absurd h (no (Nat.lt_one_iff.mp a) l rfl)
      | 2, _, _ => rfl
    subst t2
    obtain ⟨d, rest, rfl, hd, nd2, i⟩ := i.dots
    rw [if_neg (by decide), if_neg (by decide), if_pos rfl, cJ] at i
    have hp' : (P ++ l :: d) ++ rest = ls := (ag _ _ _).trans hp
    refine sj hx (i := 2) (by decide) (E := [.int A.length, z7 bar]) (by show 2 ≤ 4; decide) h hd nd2 hp ?_
    refine stage3 hx (P := P ++ l :: d) (E := [.int A.length, z7 bar, .int P.length]) (by show 3 ≤ 4; decide) hp' nd2 i qn fun l3 r e3 e => ?_
    exact qs bar P.length (P ++ l :: d).length p0 p1 d r e ⟨s0, s1, s1', u5 hp', P ++ l :: d ++ [l3], by rw [ag, yr, ← e3]; exact hp', ac⟩
theorem yZ (hx : Kx KX ls m) {A r : List Ln} {l : Ln} {w : V} (hp : A ++ l :: r = ls) (hl : bD l m = some 0) (h : Rd m o r 0 [] [] [])
    (qn : o = none → ∀ here want, Q .next (cV ls v1 KX f p v5 (.d .none) here want e9 e10 e11 e12 e13) σ)
    (qs : ∀ bar mid last p0 p1 p2 r, o = some (p0, p1, p2, r) → CutO ls A bar mid last p0 p1 p2 r → ∀ here want, Q .next (cV ls v1 KX f p v5 (.d (.lst [.int A.length, z7 bar, .int mid, .int last])) here want e9 e10 e11 e12 e13) σ) :
    gl dq 8 [.str "0", .str "1", .str "2", .str "3"] (cV ls v1 KX f p v5 (.d (.lst [])) (.d (.int A.length)) w e9 e10 e11 e12 e13) σ Q := by
  obtain ⟨d, rest, rfl, hd, nd, i⟩ := h.dots
  rw [if_pos rfl, if_neg (by decide), if_neg (by decide), cJ] at i
  have hp' : (A ++ l :: d) ++ rest = ls := (ag _ _ _).trans hp
  refine sj hx (i := 0) (by decide) (E := []) (aY _) hl hd nd hp ?_
  by_cases c : ∀ l, rest.head? = some l → bD l m ≠ some 1
  · exact zv hx (E := [.int A.length]) (by show 1 ≤ 4; decide) hp' c (AA hx (A := A) (bar := none) (k := 0) (by decide) hp' nd i (fun _ => c) (u5 hp') nofun (fun _ => rfl) qn qs)
  · induction rest using List.casesOn with
    | nil => exact absurd (fun _ h => bm h) c
    | cons l1 r =>
      have h1 : bD l1 m = some 1 := Classical.byContradiction fun n => c fun l e => by cases e; exact n
      cases i with
      | put0 h => cases h.symm.trans h1
      | stop h _ b _ => cases h.symm.trans h1; exact absurd ⟨by decide, by decide⟩ b
      | next h _ _ i =>
        cases h.symm.trans h1
        obtain ⟨d1, rest, rfl, hd1, nd1, i⟩ := i.dots
        rw [if_neg (by decide), if_pos rfl, if_neg (by decide), cJ] at i
        have hp2 : ((A ++ l :: d) ++ l1 :: d1) ++ rest = ls := (ag _ _ _).trans hp'
        refine sj hx (i := 1) (by decide) (E := [.int A.length]) (by show 1 ≤ 4; decide) h1 hd1 nd1 hp' ?_
        exact AA hx (A := A) (bar := some (A ++ l :: d).length) (k := 1) (by decide) hp2 nd1 i (fun h => nomatch h) (u5 hp') (fun b e => by cases e; exact u5 hp2) nofun qn qs
end
noncomputable def fh : Pc → D
  | .plain l => c5 l
  | .conf b o t => .tup [c5 o, c5 b, c5 t]
theorem var_of {v : V} {Q : VQ} {σ : List MO} {l : List D} (h : cu σ v = some l) (q : Q v σ) : varK v Q σ := by
  induction v using V.casesOn with
  | un => exact bm h
  | d x => exact q
  | hd k => exact q
theorem Ac {pl : List Ln} : (c7 pl).map fh = if pl = [] then [] else [c5 pl] := by
  unfold c7
  split <;> rfl
section
variable {W : Wd} {n : Nat} {ls : List Ln} {v1 : V} {KX : String} {m : Nat}
theorem sI {Q : VQ} {f : V} {τ : List MO} {F : List D} {pl : List Ln} {v0 v2 e5 e6 e7 e8 e9 e10 e11 e12 e13 : V} (b : Bool) (hf : cu τ f = some F) (hz : F.length ≤ 10000) (q : Q (cond b (.hd τ.length) (.d (.lst (F ++ (c7 pl).map fh)))) (cond b (τ ++ [.list (F ++ (c7 pl).map fh)]) τ)) :
    aV .Add (eV 3) (o9 (bd .NotEq (eV 4) (bB ak)) (bB (ae (eV 4) ak)) (bB ak)) [v0, v1, v2, f, .d (c5 pl), e5, e6, e7, e8, e9, e10, e11, e12, e13] τ Q := by
  refine var_of hf (af (.d rfl) (aw (fe (dR rfl)) ?_))
  rw [Ac] at q
  have z : ∀ {l : List D}, l.length ≤ 1 → F.length + l.length ≤ 16777216 := fun h => ab (aA hz h) (by decide)
  have add : ∀ {l : List D}, l.length ≤ 1 → Q (cond b (.hd τ.length) (.d (.lst (F ++ l)))) (cond b (τ ++ [.list (F ++ l)]) τ) → binK .Add Q f (.d (.lst l)) τ := fun {l} h q => by
    have key : u8 (BinR τ .Add f (.d (.lst l))) Q := by
      induction b using Bool.casesOn with
      | true => exact af (.addH hf rfl (z h)) q
      | false => exact af (.addL hf rfl (z h)) q
    induction f using V.casesOn with
    | un => exact bm hf
    | hd k => exact key
    | d x => induction x using D.casesOn <;> first | exact bm hf | exact key
  by_cases h : pl = []
  · rw [if_pos h] at q
    exact cn (fun n => n (map_nil'.mpr h)) (af (.d rfl) (add (aY _) q))
  · rw [if_neg h] at q
    exact cy (fun n => h (map_nil'.mp n)) (af (.d rfl) (add (au 1) q))
theorem Br {Q : FX} (hl : ls.length ≤ 100) (hx : Kx KX ls m) {rest : List Ln} {es : List Ent} (h : Evs m rest es) : ∀ {pre pl : List Ln} {acc : List Pc} {τ : List MO} {f e6 e7 e8 e9 e10 e11 e12 e13 : V}, pre ++ rest = ls → pl.length ≤ pre.length → acc.length ≤ 2 * pre.length → cu τ f = some (acc.map fh) →
    (∀ acc' pl' τ' f' p e6 e7 e8 e9 e10 e11 e12 e13, acc' ++ c7 pl' = acc ++ gj pl es → acc'.length ≤ 200 → cu τ' f' = some (acc'.map fh) → Q .next [.d (c5 ls), v1, .d (.str KX), f', .d (c5 pl'), p, e6, e7, e8, e9, e10, e11, e12, e13] τ') →
    cW iS iR (es.length + 1) (cV ls v1 KX f (.d (c5 pl)) (.d (.int pre.length)) e6 e7 e8 e9 e10 e11 e12 e13) τ Q := by
  have nx : ∀ {pre : List Ln} {l r}, pre ++ l :: r = ls → (pre ++ [l]) ++ r = ls := fun hp => (ag _ _ _).trans hp
  have ln : ∀ {pre : List Ln} {l : Ln}, (pre ++ [l]).length = pre.length + 1 := ac
  have lt : ∀ {pre : List Ln} {l r}, pre ++ l :: r = ls → (pre.length : Int) < ((ls.map D.bytes).length : Int) := fun hp => hp ▸ xO
  have at_ : ∀ {pre : List Ln} {l r}, pre ++ l :: r = ls → (ls.map D.bytes)[((pre.length : Nat) : Int).toNat]? = some (.bytes l) := fun hp => hp ▸ xP
  have pz : ∀ {pre rest : List Ln}, pre ++ rest = ls → pre.length ≤ 100 := fun hp => ab (by rw [← hp, ac]; exact ai _ _) hl
  induction h with
  | nil =>
    intro pre pl acc τ f e6 e7 e8 e9 e10 e11 e12 e13 hp _ ha hf q
    have := pz hp
    rw [ar] at hp; subst hp
    exact af (.lenL rfl) (cn (fP (bA _)) (q acc pl τ f _ _ _ _ _ _ _ _ _ rfl (ab ha (a5 2 this)) hf))
  | @ln l r es h _ ih =>
    intro pre pl acc τ f e6 e7 e8 e9 e10 e11 e12 e13 hp hpl ha hf q
    rw [ao]
    refine af (.lenL rfl) (cy (lt hp) ?_)
    refine af (.d rfl) (ef (d := .tup _) rfl ?_)
    have fin : ∀ e7 e8, cW iS iR (es.length + 1) (cV ls v1 KX f (.d (c5 (pl ++ [l]))) (.d (.int ((pre.length : Int) + 1))) (.d .none) e7 e8 e9 e10 e11 e12 e13) τ Q := fun e7 e8 => by
      have := ih (pre := pre ++ [l]) (pl := pl ++ [l]) (acc := acc) (τ := τ) (f := f) (e6 := .d .none) (e7 := e7) (e8 := e8) (e9 := e9) (e10 := e10) (e11 := e11) (e12 := e12) (e13 := e13) (nx hp) (by rw [ln, ln]; exact aj hpl) (ab ha (a5 2 (by rw [ln]; exact bO _))) hf q
      rw [ln] at this
      exact this
    have hz := ab (aj (ab hpl (pz hp))) (by decide : 101 ≤ 16777216)
    by_cases h0 : bD l m = some 0
    · refine yZ (v5 := .d (.int pre.length)) hx hp h0 (h h0) (fun _ here want => ?_) (fun _ _ _ _ _ _ _ e => nomatch e)
      exact aw .isN (a6 rfl (aM (.it rfl (av _) (at_ hp)) (af (.d rfl) (af (bW (a := pl) (b := [l]) hz) (fin _ _)))))
    · refine rO hx (i := 0) (by decide) (by decide) hp (fun l e n => by cases e; exact h0 n) ?_
      exact aw .isN (a6 rfl (aM (.it rfl (av _) (at_ hp)) (af (.d rfl) (af (bW (a := pl) (b := [l]) hz) (fin _ _)))))
  | @cf l r r' p0 p1 p2 es h c _ ih =>
    intro pre pl acc τ f e6 e7 e8 e9 e10 e11 e12 e13 hp hpl ha hf q
    have hz := pz hp
    rw [ao]
    refine af (.lenL rfl) (cy (lt hp) ?_)
    refine af (.d rfl) (ef (d := .tup _) rfl ?_)
    refine yZ (v5 := .d (.int pre.length)) hx hp h c (fun e => nomatch e) (fun bar mid last p0 p1 p2 r e O here want => ?_)
    cases e
    obtain ⟨B, hB, hBl⟩ := O.pre
    have la : (acc ++ c7 pl).length ≤ 2 * pre.length + 1 := by rw [ac]; exact aA ha (by unfold c7; split <;> exact aP rfl)
    have lb : (acc ++ c7 pl ++ [Pc.conf p1 p0 p2]).length ≤ 2 * B.length := by
      obtain ⟨y, mid, e⟩ := c.suf rfl
      have h2 : B.length = pre.length + (mid.length + 2) := by
        have := congrArg dV (hB.trans hp.symm)
        rw [e, ac, ac, ao, ac, ao] at this
        exact aH (.e (.a .A .B) (.a .C (.a (.a (.a .D .I) .B) .I)) (.o .A (.a .C (.a .D (.n 2))))) rf [_,_,_,_] [] this
      rw [ac, h2, Nat.mul_add]
      exact ab (aj la) (br (a5 2 (aK 1 _)) _)
    refine aw (.isO (.lst _)) (aN rfl ?_)
    have zz : (zp fh (acc ++ c7 pl)).length < 16777216 := by rw [ah]; exact aL (ab la (aj (a5 2 hz))) (by decide)
    refine sI true hf (by rw [ah]; exact ab ha (ab (a5 2 hz) (by decide))) ?_
    rw [← aB, cond_true, cond_true]
    have fin : ∀ e6 e7 e8 e9 e10 e11 e12 e13, cW iS iR (es.length + 1) (cV ls v1 KX (.hd τ.length) (.d (c5 [])) (.d (.int ((last : Int) + 1))) e6 e7 e8 e9 e10 e11 e12 e13) (τ ++ [.list ((acc ++ c7 pl ++ [Pc.conf p1 p0 p2]).map fh)]) Q := fun e6 e7 e8 e9 e10 e11 e12 e13 => by
      have := ih (pre := B) (pl := []) (acc := acc ++ c7 pl ++ [Pc.conf p1 p0 p2]) (τ := τ ++ [.list ((acc ++ c7 pl ++ [Pc.conf p1 p0 p2]).map fh)]) (f := .hd τ.length) (e6 := e6) (e7 := e7) (e8 := e8) (e9 := e9) (e10 := e10) (e11 := e11) (e12 := e12) (e13 := e13) hB (aY _) lb iU (by rw [ag, ag]; exact q)
      rw [hBl] at this
      exact this
    induction bar using Option.casesOn with
    | none =>
      refine aw .ntN (aN rfl (bH (.lst rfl) ?_))
      rw [bZ]
      refine oj vC (aw .ntN (aN rfl (af (.d rfl) (bH (.lst rfl) ?_))))
      rw [bZ]
      refine af (.append qB zz) ?_
      have s0 : a9 ls (some ((pre.length : Int) + 1)) (some (mid : Int)) = p0 := O.s0
      rw [set_last, s0, O.s2]
      refine af (.d rfl) ?_
      have f := fin
      rw [aB, O.s1' rfl] at f
      exact f _ _ _ _ _ _ _ _
    | some bb =>
      refine aw (.ntO (.int _)) (a6 rfl (bH (.lst rfl) ?_))
      rw [bZ]
      refine oj vC (aw (.ntO (.int _)) (a6 rfl (bH (.lst rfl) ?_)))
      rw [bZ]
      refine bH (.lst rfl) ?_
      rw [bZ]
      refine af (.append qB zz) ?_
      have s0 : a9 ls (some ((pre.length : Int) + 1)) (some (bb : Int)) = p0 := O.s0
      rw [set_last, s0, O.s1 _ rfl, O.s2]
      refine af (.d rfl) ?_
      have f := fin
      rw [aB] at f
      exact f _ _ _ _ _ _ _ _
end
section
variable {m : Nat}
theorem kx_l : ∀ (ls : List Ln) (s : String), ((ls.map fun l => i7 (bD l m)).foldl (fun r s => r ++ s) s).toList = s.toList ++ ls.map (fun l => kC (bD l m))
  | [], s => (ar _).symm
  | l :: ls, s => by
    have e : (i7 (bD l m)).toList = [kC (bD l m)] := String.toList_singleton _
    rw [cG, f0, kx_l ls, String.toList_append, ag, e]; rfl
theorem kx_s : ∀ (ls : List Ln), ((ls.map fun l => i7 (bD l m)).map (·.length)).sum = ls.length
  | [] => rfl
  | l :: ls => by
    have e : (i7 (bD l m)).length = 1 := String.length_singleton
    rw [cG, cG, List.sum_cons, kx_s ls, e, bq]; rfl
end
section
variable {W : Wd} {n : Nat} {σ : List MO} {Q : VQ}
theorem xU (hW : Wk W) {ls : List Ln} {m : Nat} {es : List Ent} (h1 : 1 ≤ m) (hm : m ≤ 1000) (g : ∀ l ∈ ls, Gd l) (hl : ls.length ≤ 100) (h : Evs m ls es) (q : Q (.d (.lst ((gj [] es).map fh))) σ) : CallP W (n + 2) 587 [.d (c5 ls), .d (.int m)] σ Q := by
  have hz : ls.length ≤ 16777216 := ab hl (by decide)
  refine nD hW (ws := [.d (c5 ls), .d (.int m)]) rfl rfl rfl ?_
  refine i6 (d := .lst _) (ds := _) rfl (by rw [ah]; exact hz) (qi .bytes (fun l => .str (i7 (bD l m))) ls (fun l hl nx acc q => a6 rfl (qN hW (g l hl) h1 hm q)) ?_)
  refine af (.joinS (bs := ls.map fun l => i7 (bD l m)) (by rw [ji]; rfl) (by rw [kx_s]; exact hz)) ?_
  have kl : (String.join (ls.map fun l => i7 (bD l m))).toList = ls.map fun l => kC (bD l m) := kx_l ls ""
  have kz : (String.join (ls.map fun l => i7 (bD l m))).length = ls.length := by rw [← String.length_toList, kl, ah]
  refine af (.addS (by rw [kz]; exact ab (aj hl) (by decide))) ?_
  have hx : Kx (String.join (ls.map fun l => i7 (bD l m)) ++ "x") ls m := ⟨by rw [String.toList_append, kl]; rfl, by rw [String.length_append, kz]; exact ab (aj hl) (by decide)⟩
  generalize String.join (ls.map fun l => i7 (bD l m)) ++ "x" = KX at hx ⊢
  refine af (.d rfl) (af (.d rfl) (iH (es.length + 1) ?_))
  refine Br hl hx h (pre := []) (pl := []) (acc := []) rfl (au _) (au _) rfl fun acc pl τ f p e6 e7 e8 e9 e10 e11 e12 e13 he hz hf => ?_
  refine sI false hf (by rw [ah]; exact ab hz (by decide)) ?_
  rw [← aB, he]
  exact q
theorem xB {o t : List Ln} (ho : ∀ x ∈ o, Gd x) (ht : ∀ x ∈ t, Gd x) : (if dk t.flatten o.flatten = true then [D.bytes t.flatten, .bytes o.flatten] else [.bytes o.flatten, .bytes t.flatten]) = [.bytes (bX o t).1, .bytes (bX o t).2] := by
  unfold bX
  rw [dS ho, dS ht, AX]
  cases dm o.flatten t.flatten <;> rfl
theorem r0 {m : Nat} {b o t : List Ln} : de m [(bX o t).1] [] [(bX o t).2] = nF m (.conf b o t) := by
  unfold de
  rw [if_pos rfl]
  show _ = [_, _, _, _, _]
  rw [kr, kr, kr]; rfl
theorem jF (hW : Wk W) {Q : FX} {m : Nat} {v0 : V} (hm : m ≤ 10) : ∀ (ps : List Pc) {F S : List Ln} {e4 e5 e6 : V}, (∀ p ∈ ps, PcOk p) → (∀ p ∈ ps, Ad p) → F.length + (ps.flatMap (nF m)).length ≤ 16777215 → S.length + (ps.flatMap nS).length ≤ 16777215 →
    (∀ e4 e5 e6, Q .next [v0, .d (.int m), .hd 0, .hd 1, e4, e5, e6] [.list ((S ++ ps.flatMap nS).map .bytes), .list ((F ++ ps.flatMap (nF m)).map .bytes)]) →
    gl (kQ (CallP W (n + 2))) 4 (ps.map fh) [v0, .d (.int m), .hd 0, .hd 1, e4, e5, e6] [.list (S.map .bytes), .list (F.map .bytes)] Q
  | [], F, S, e4, e5, e6, _, _, _, _, q => by
    rw [ct, ct, ar, ar] at q
    exact q _ _ _
  | .plain l :: ps, F, S, e4, e5, e6, ok, gd, hF, hS, q => by
    rw [aF, aF, ← ag F] at q
    rw [aF, ac, ← aZ] at hF
    refine af (.isiL _) (aN rfl (af (.extend rfl rfl ?_) ?_))
    · rw [ah (as := l)]; exact dQ (ab (ai _ _) hF)
    · have := jF hW hm ps (F := F ++ l) (S := S) (e4 := .d (c5 l)) (e5 := e5) (e6 := e6) (fun p h => ok p (.tail _ h)) (fun p h => gd p (.tail _ h)) (by rw [ac]; exact hF) hS q
      rw [aB] at this
      exact this
  | .conf b o t :: ps, F, S, e4, e5, e6, ok, gd, hF, hS, q => by
    rw [aF, ← ag, aF, ← ag] at q
    rw [aF, ac, ← aZ] at hF hS
    cases ok _ (.head _) with | conf hb ho ht =>
    cases gd _ (.head _) with | conf gb go gt =>
    have sl := wi ho ht
    have ih := jF hW hm ps (F := F ++ nF m (.conf b o t)) (S := S ++ nS (.conf b o t)) (e4 := .d (fh (.conf b o t))) (e5 := .d (.bytes (bX o t).1)) (e6 := .d (.bytes (bX o t).2)) (fun p h => ok p (.tail _ h)) (fun p h => gd p (.tail _ h)) (by rw [ac]; exact hF) (by rw [ac]; exact hS) q
    rw [aB, aB] at ih
    refine af (.isiT _) (a6 rfl ?_)
    refine aM (.tup (by decide) rfl) (af (.joinB (bs := o) rfl (ab ho.flat (by decide))) (aM (.tup (by decide) rfl) (af (.joinB (bs := t) rfl (ab ht.flat (by decide))) (af (.d rfl) (af (.sorted rfl) ?_)))))
    rw [xB go gt]
    refine af (.d rfl) (af (.extend rfl rfl (dQ (ab (ai _ _) hS))) ?_)
    refine af (.d rfl) (af (.d rfl) (af (.d rfl) (jw hW (a := [(bX o t).1]) (o := []) (t := [(bX o t).2]) (ab hm (by decide)) (by decide : 1 ≤ 1000000) (aY _) (by decide : 1 ≤ 1000000) ?_)))
    rw [r0 (b := b)]
    exact af (.extend rfl rfl (dQ (k := 5) (ab (ai _ _) hF))) ih
theorem tR (hW : Wk W) {m : Nat} {es : List Ent} (hm : m ≤ 10) (ok : EsOk es) (gd : EsGd es) (q : Q (.d (.tup [.bytes (es.flatMap gN).flatten, .bytes (es.flatMap (zL m)).flatten])) σ) : CallP W (n + 3) 601 [.d (.lst ((gj [] es).map fh)), .d (.int m)] σ Q := by
  have hn := ab ((iP es []).2 rfl) ok.n
  have b1 := ab (ku fun p hp => (PcOk.nF hm (ok.pc p hp)).1) (aT 60 hn)
  have b2 := ab (lT fun p hp => (PcOk.nF hm (ok.pc p hp)).2.1) (aT 8000 hn)
  have b3 := ab (ku fun p hp => (PcOk.nF hm (ok.pc p hp)).2.2.1) (aT 4 hn)
  have b4 := ab (lT fun p hp => (PcOk.nF hm (ok.pc p hp)).2.2.2) (aT 8000 hn)
  refine nD hW (ws := [.d (.lst _), .d (.int m)]) rfl rfl rfl ?_
  refine af (.hd rfl) (af (.hd rfl) (ef (d := .lst _) rfl ?_))
  refine jF hW hm (gj [] es) (F := []) (S := []) ok.pc (vA es [] gd nofun) (ab (aW (aS _)) (ab b1 (by decide))) (ab (aW (aS _)) (ab b3 (by decide))) fun e4 e5 e6 => ?_
  rw [cJ, cJ]
  rw [AQ] at b2 ⊢
  rw [xN] at b4 ⊢
  exact af (.joinB rfl (ab b4 (by decide))) (af (.joinB rfl (ab b2 (by decide))) q)
end
theorem pick_r {w : String} {b o t : List Ln} (h : OkW w) : PickR w ["ours", "theirs", "base", "both"] [.d (c5 o), .d (c5 t), .d (c5 b), .d (c5 (o ++ t))] (.d (c5 (nt w b o t))) := by
  induction h using OkW.casesOn with
  | ours => exact .here
  | theirs => exact .there (by decide) .here
  | base => exact .there (by decide) (.there (by decide) .here)
  | both => exact .there (by decide) (.there (by decide) (.there (by decide) .here))
theorem OkW.none {w : String} (h : OkW w) : (w == "none") = false := by
  induction h using OkW.casesOn <;> decide
section
variable {W : Wd} {n : Nat} {σ : List MO}
theorem jE (hW : Wk W) {Q : FX} {v0 v1 : V} {m : Nat} (hm : m ≤ 10) : ∀ (ps : List Pc) {us : List String} {F : List Ln} {e5 e6 : V}, (∀ u ∈ us, OkW u) → (∀ p ∈ ps, PcOk p) → F.length + (i5 m ps us).length ≤ 16777215 →
    (∀ e5 e6 us', Q .next [v0, v1, .d (.int m), .hd 0, .hd 1, e5, e6] [.list ((F ++ i5 m ps us).map .bytes), us']) →
    gl (kO (CallP W (n + 2))) 5 (ps.map fh) [v0, v1, .d (.int m), .hd 0, .hd 1, e5, e6] [.list (F.map .bytes), .list (us.map .str)] Q
  | [], us, F, e5, e6, _, _, _, q => by rw [show i5 m [] us = [] from rfl, ar] at q; exact q _ _ _
  | .plain l :: ps, us, F, e5, e6, hw, ok, hz, q => by
    rw [show i5 m (.plain l :: ps) us = l ++ i5 m ps us from rfl] at q hz
    rw [← ag] at q
    rw [ac, ← aZ] at hz
    have := jE hW hm ps (F := F ++ l) (e5 := .d (c5 l)) (e6 := .d (.str "none")) hw (fun p h => ok p (.tail _ h)) (by rw [ac]; exact hz) q
    rw [aB] at this
    refine af (.isiL _) (aN rfl (aN rfl (af (.isiL _) (a6 rfl (af (.extend rfl rfl ?_) this)))))
    rw [ah (as := l)]; exact dQ (aG hz)
  | .conf b o t :: ps, us, F, e5, e6, hw, ok, hz, q => by
    rw [show i5 m (.conf b o t :: ps) us = jV m b o t us ++ i5 m ps us.tail from rfl] at q hz
    rw [← ag] at q
    rw [ac, ← aZ] at hz
    cases ok _ (.head _) with | conf hb ho ht =>
    have next := fun e6 => jE hW hm ps (F := F ++ jV m b o t us) (e5 := .d (fh (.conf b o t))) (e6 := e6) (fun u h => hw u (List.mem_of_mem_tail h)) (fun p h => ok p (.tail _ h)) (by rw [ac]; exact hz) q
    rw [aB] at next
    have z : ∀ {l : List Ln}, l = jV m b o t us → (F.map D.bytes).length + (l.map D.bytes).length ≤ 16777216 := fun e => by
      rw [e, ah (as := jV m b o t us)]; exact dQ (aG hz)
    have bn : ∀ {l : List Ln}, LsOk l → l.length ≤ 1000000 := fun h => ab h.n (by decide)
    refine af (.isiT _) (a6 rfl (af (.d rfl) (aw (fe (dR rfl)) ?_)))
    induction us using List.casesOn with
    | nil =>
      refine cn (fun h => h rfl) (aN rfl (af (.isiT _) (aN rfl (aw (.eq (.atom (.str _ _))) (a6 (by decide) ?_)))))
      refine aM (.tup (by decide) rfl) (aM (.tup (by decide) rfl) (aM (.tup (by decide) rfl) (jw hW (a := o) (o := b) (t := t) (ab hm (by decide)) (bn ho) (bn hb) (bn ht) (af (.extend rfl rfl (z rfl)) (next _)))))
    | cons w us =>
      have hw0 := hw w (.head _)
      refine cy (fun h => nomatch h) (a6 rfl (af (.pop0 rfl) (af (.isiT _) (aN rfl (aw (.eq (.atom (Aa hw0.none))) (aN rfl ?_))))))
      refine aM (.tup (by decide) rfl) (aM (.tup (by decide) rfl) (aM (.tup (by decide) rfl) (aM (.tup (by decide) rfl) (aM (.tup (by decide) rfl) (af (bW (a := o) (b := t) (ab (aA ho.n ht.n) (by decide))) (d4p_of (pick_r hw0) (af (.extend rfl rfl (z rfl)) (next _))))))))
theorem jD (hW : Wk W) {Q : VQ} {ws : List String} {m : Nat} {es : List Ent} (hm : m ≤ 10) (ok : EsOk es) (hw : ∀ u ∈ ws, OkW u) (hn : ws.length ≤ 16777216) (hf : (fT m es ws).flatten.length ≤ 16777216) (q : Q (.d (.bytes (fT m es ws).flatten)) σ) : CallP W (n + 3) 608 [.d (.lst ((gj [] es).map fh)), .d (.lst (ws.map .str)), .d (.int m)] σ Q := by
  refine nD hW (ws := [.d (.lst _), .d (.lst (ws.map .str)), .d (.int m)]) rfl rfl rfl ?_
  refine af (.hd rfl) (af (.list rfl) (ef (d := .lst _) rfl ?_))
  have e := rZ (m := m) es [] ws
  rw [cJ] at e
  refine jE hW hm (gj [] es) (F := []) hw ok.pc ?_ fun e5 e6 us => ?_
  · exact ab (aW (aS _)) (ab (sT ok.pc) (ab (aT 184 (ab ((iP es []).2 rfl) ok.n)) (by decide)))
  · rw [cJ, e]
    exact af (.joinB rfl hf) q
end
noncomputable def thE (m : Nat) : Ent → List Ln
  | .ln l => [l]
  | .cf _ o t => de m t [] o
noncomputable def thP (m : Nat) : Pc → List Ln
  | .plain l => l
  | .conf _ o t => de m t [] o
theorem th_grp {m : Nat} {es : List Ent} : (gj [] es).flatMap (thP m) = es.flatMap (thE m) := by
  have e : entF (fun x => [x]) (thP m) = thE m := by funext x; induction x using Ent.casesOn <;> rfl
  rw [← e]; exact sY (fun _ => s8) es []
noncomputable def dueD (S : Ln) : List Ent → D
  | .cf _ _ _ :: _ => .none
  | _ => .bytes ([112, 10, 120, 10] ++ S)
structure Rr (m : Nat) (pg : Ln) (es : List Ent) (ws : List String) (nrm : Ln) (e2 : List Ent) : Prop where
  p0 : Pg m ([112, 10, 113, 10] ++ pg) (.ln [112, 10] :: .ln [113, 10] :: es)
  nr : nrm = ((.ln [112, 10] :: .ln [113, 10] :: es).flatMap (zL m)).flatten
  pn : Pg m nrm e2
  sz : (fT m es ws).flatten.length ≤ 4000
  ne : es ≠ []
  pt : ∃ e, Pg m ([112, 10, 113, 10] ++ (es.flatMap (thE m)).flatten) e ∧ RepR m e e2 nrm ([112, 10, 113, 10] ++ (fT m es ws).flatten) (.bytes ([112, 10, 113, 10] ++ (fT m es ws).flatten))
  px : ∃ e, Pg m ([120, 10, 113, 10] ++ pg) e ∧ RepR m e e2 nrm ([112, 10, 113, 10] ++ (fT m es ws).flatten) (.bytes ([120, 10, 113, 10] ++ (fT m es ws).flatten))
  pq : ∃ e, Pg m ([112, 10, 120, 10] ++ pg) e ∧ RepR m e e2 nrm ([112, 10, 113, 10] ++ (fT m es ws).flatten) (dueD (fT m es ws).flatten es)
  pr : RepR m (.ln [112, 10] :: .ln [113, 10] :: es) e2 nrm nrm .none
  po : ∃ e, Pg m ([112, 10, 113, 10] ++ (pg ++ (de m [[107, 10]] [] [[108, 10]]).flatten)) e ∧ RepR m e e2 nrm ([112, 10, 113, 10] ++ (fT m es ws).flatten) .none
inductive HeadR (S : Ln) : List Pc → D → Prop
  | plain {l r} : HeadR S (.plain l :: r) (.bytes ([112, 10, 120, 10] ++ S))
  | conf {b o t r} : HeadR S (.conf b o t :: r) .none
theorem uA : ∀ (es : List Ent) (pl : List Ln), pl ≠ [] → ∃ l r, gj pl es = .plain l :: r
  | [], pl, h => ⟨pl, [], pP h⟩
  | .ln l :: es, pl, h => uA es (pl ++ [l]) (qC h _)
  | .cf b o t :: es, pl, h => ⟨pl, _, congrArg (· ++ _) (pP h)⟩
theorem head_r {S : Ln} : ∀ {es : List Ent}, es ≠ [] → HeadR S (gj [] es) (dueD S es)
  | [], h => (h rfl).elim
  | .ln l :: es, _ => by
    obtain ⟨a, r, e⟩ := uA es [l] (io _ _)
    show HeadR S (gj [l] es) _
    rw [e]; exact .plain
  | .cf b o t :: es, _ => .conf
section
variable {W : Wd} {n : Nat} {σ : List MO}
theorem ph {m : Nat} {a t : List Ln} : (de m a [] t).length = a.length + t.length + 3 := by
  unfold de
  rw [if_pos rfl, ar, ac, ac, ac, ac]
  show 1 + a.length + 1 + t.length + 1 = _
  exact aH (.o (.a (.a (.a (.a .I .A) .I) .B) .I) (.a (.a .A .B) (.n 3))) rf [_,_] []
theorem nV (hW : Wk W) {Q : FX} {m : Nat} {v0 v1 v2 v4 v5 v6 v7 v10 v11 : V} {x y : MO} (hm : m ≤ 10) : ∀ (ps : List Pc) {F : List Ln} {e9 : V}, (∀ p ∈ ps, PcOk p) → F.length + ps.length * 200 ≤ 16777215 →
    (∀ e9, Q .next [v0, v1, v2, .d (.int m), v4, v5, v6, v7, .hd 2, e9, v10, v11] [x, y, .list ((F ++ ps.flatMap (thP m)).map .bytes)]) →
    gl (fX (CallP W (n + 2))) 9 (ps.map fh) [v0, v1, v2, .d (.int m), v4, v5, v6, v7, .hd 2, e9, v10, v11] [x, y, .list (F.map .bytes)] Q
  | [], F, e9, _, _, q => by rw [ct, ar] at q; exact q _
  | .plain l :: ps, F, e9, ok, hz, q => by
    rw [aF, ← ag] at q
    cases ok _ (.head _) with | plain hl =>
    have hn := hl.n
    rw [ao, jo] at hz
    have := nV hW hm ps (F := F ++ l) (e9 := .d (c5 l)) (fun p h => ok p (.tail _ h)) (by rw [ac]; exact aH (.l (.a .A (.a .B (.n 200))) (.n 16777215) (.l .C (.n 60) (.p (.a (.a .A .C) .B) (.n 16777215)))) rf [_,_,_] [] hz hn) q
    rw [aB] at this
    refine af (.isiL _) (aN rfl (af (.extend rfl rfl ?_) this))
    rw [ah (as := l)]; exact dQ (by exact aH (.l (.a .A (.a .B (.n 200))) (.n 16777215) (.l .C (.n 60) (.p (.a .A .C) (.n 16777215)))) rf [_,_,_] [] hz hn)
  | .conf b o t :: ps, F, e9, ok, hz, q => by
    rw [aF, ← ag] at q
    cases ok _ (.head _) with | conf hb ho ht =>
    have h1 := ho.n
    have h2 := ht.n
    rw [ao, jo] at hz
    have bl : F.length + (de m t [] o).length + ps.length * 200 ≤ 16777215 := by rw [ph]; exact aH (.l (.a .A (.a .B (.n 200))) (.n 16777215) (.l .C (.n 60) (.l .D (.n 60) (.p (.a (.a .A (.a (.a .D .C) (.n 3))) .B) (.n 16777215))))) rf [_,_,_,_] [] hz h1 h2
    have bn : ∀ {l : List Ln}, LsOk l → l.length ≤ 1000000 := fun h => ab h.n (by decide)
    have := nV hW hm ps (F := F ++ de m t [] o) (e9 := .d (fh (.conf b o t))) (fun p h => ok p (.tail _ h)) (by rw [ac]; exact bl) q
    rw [aB] at this
    refine af (.isiT _) (a6 rfl (aM (.tup (by decide) rfl) (af (.d rfl) (aM (.tup (by decide) rfl) (jw hW (a := t) (o := []) (t := o) (ab hm (by decide)) (bn ht) (aY _) (bn ho) (af (.extend rfl rfl ?_) this))))))
    rw [ah (as := de m t [] o)]; exact dQ (aG bl)
end
section
variable {W : Wd} {n : Nat} {σ : List MO}
theorem kY (hW : Wk W) {Q : VQ} {pg nrm : Ln} {m k j z : Nat} {mm : Ln → Option Int} {es e2 : List Ent} {ws : List String} (H : HSt σ k j mm z) (hz : z ≤ 100) (hm : m ≤ 10) (ok : EsOk es) (hw : ∀ u ∈ ws, OkW u) (hn : ws.length ≤ 1000) (R : Rr m pg es ws nrm e2) (q : ∀ σ', Q (.d (.bool true)) σ') :
    CallP W (n + 11) 615 [.d (.lst ((gj [] es).map fh)), .d (.bytes pg), .d (.lst (ws.map .str)), .d (.int m), .hd k] σ Q := by
  obtain ⟨p0, nr, pn, sz, hne, ⟨f1, pt, r1⟩, ⟨f2, px, r2⟩, ⟨f3, pq, r3⟩, pr, ⟨f5, po, r5⟩⟩ := R
  have A := H.at_
  have ne : k ≠ j := fun e => by subst e; cases A.i.symm.trans A.b
  have H0 : HSt [.inst 108 [.d (.int 4), .hd 1], .bmap mm z] 0 1 mm z := ⟨⟨rfl, rfl, A.lim⟩, H.inj⟩
  have d0 := (A.dig_le (((Ent.ln [112, 10] :: .ln [113, 10] :: es).flatMap gN).flatten)).2.2.2
  have H1 := H0.step (((Ent.ln [112, 10] :: .ln [113, 10] :: es).flatMap gN).flatten)
  refine Bm (ws := [.d (.lst _), .d (.bytes pg), .d (.lst (ws.map .str)), .d (.int m), .hd 0]) (σL := [.inst 108 [.d (.int 4), .hd 1], .bmap mm z]) [k, j] 0 hW rfl rfl rfl (bt.mpr ⟨fun e => ne (am.mp e), bQ _ _⟩) ⟨A.i, A.b, trivial⟩ rfl ?_
  have az : ∀ {a b : Ln} {c : Nat}, (a ++ b).length ≤ c → c ≤ 16777216 → a.length + b.length ≤ 16777216 := fun h h' => ab (by rw [← ac]; exact h) h'
  have ps := az p0.len (by decide)
  refine af (.addB ps) ?_
  refine eD hW (n := n + 5) (k := 0) (j := 1) H0.at_ (aL hz (by decide)) hm (ab p0.len (by decide)) p0.evs p0.ok (fun h => absurd h p0.ne) fun _ => ?_
  refine aM (.tup (by decide) rfl) ?_
  rw [← nr]
  have z1 : dz mm z ((Ent.ln [112, 10] :: .ln [113, 10] :: es).flatMap gN).flatten ≤ 101 := ab d0 (aj hz)
  have H1 : HSt [.inst 108 [.d (.int 4), .hd 1], .bmap _ _] 0 1 _ _ := H1
  generalize tM mm z ((Ent.ln [112, 10] :: .ln [113, 10] :: es).flatMap gN).flatten = mm1 at H1 ⊢
  generalize dz mm z ((Ent.ln [112, 10] :: .ln [113, 10] :: es).flatMap gN).flatten = n1 at H1 z1 ⊢
  refine jD hW (n := n + 7) hm ok hw (ab hn (by decide)) (ab sz (by decide)) ?_
  generalize (fT m es ws).flatten = S at *
  refine af (.hd rfl) (ef (d := .lst _) rfl ?_)
  have hg := (iP es []).2 rfl
  refine nV hW (n := n + 8) hm (gj [] es) (F := []) ok.pc (ab (aW (aS _)) (ab (aT 200 (ab hg ok.n)) (by decide))) fun e9 => ?_
  rw [cJ, th_grp]
  have tl := az pt.len (by decide)
  have sz' : ∀ {a : Ln}, a.length ≤ 10 → a.length + S.length ≤ 16777216 := fun h => ab (aA h sz) (by decide)
  refine af (.joinB rfl (ab (aK _ _) tl)) (af (.addB tl) (af (.addB (sz' (by decide))) ?_))
  generalize MO.list ((es.flatMap (thE m)).map D.bytes) = TH
  have H1 : HSt [.inst 108 [.d (.int 4), .hd 1], .bmap mm1 n1, TH] 0 1 mm1 n1 := ⟨⟨rfl, rfl, H1.at_.lim⟩, H1.inj⟩
  refine dd hW (k := 0) (j := 1) H1 (aL z1 (by decide)) hm pt pn r1 fun mm2 n2 z2 H2 => ?_
  refine af (.addB (sz' (by decide))) (aw (neN (.atom kR) rfl) (aN rfl ?_))
  have z2 := ab z2 (aC z1 2)
  have H2 : HSt [.inst 108 [.d (.int 4), .hd 1], .bmap mm2 n2, TH] 0 1 mm2 n2 := H2
  have rest : ∀ (e9 e10 : V) (mm3 : Ln → Option Int) (n3 : Nat), n3 ≤ 105 → HSt [.inst 108 [.d (.int 4), .hd 1], .bmap mm3 n3, TH] 0 1 mm3 n3 → gZ (el (CallP W (n + 10))) (gM [k, j] 0 σ Q) .next [.d (.lst ((gj [] es).map fh)), .d (.bytes pg), .d (.lst (ws.map .str)), .d (.int m), .hd 0, .d (.bytes [112, 10, 113, 10]), .d (.bytes nrm), .d (.bytes S), .hd 2, e9, e10, .un] [.inst 108 [.d (.int 4), .hd 1], .bmap mm3 n3, TH] := fun e9 e10 mm3 n3 z3 H3 => by
    refine af (.addB ps) (dd hW (k := 0) (j := 1) H3 (aL z3 (by decide)) hm p0 pn pr fun mm4 n4 z4 H4 => ?_)
    have z4 := ab z4 (aC z3 2)
    have H4 : HSt [.inst 108 [.d (.int 4), .hd 1], .bmap mm4 n4, TH] 0 1 mm4 n4 := H4
    have tl := az po.len (by decide)
    have ql : pg.length + (de m [[107, 10]] [] [[108, 10]]).flatten.length ≤ 16777216 := ab (by rw [← ac]; exact aK _ _) tl
    refine aw .ntN (aN rfl (af (.d rfl) (af (.d rfl) (af (.d rfl) (jw hW (n := n + 8) (a := [[107, 10]]) (o := []) (t := [[108, 10]]) (ab hm (by decide)) (by decide : 1 ≤ 1000000) (aY _) (by decide : 1 ≤ 1000000) ?_)))))
    refine af (.joinB rfl (ab (aK _ _) ql)) (af (.addB ql) (af (.addB tl) (af (.addB (sz' (by decide))) ?_)))
    refine dd hW (k := 0) (j := 1) H4 (aL z4 (by decide)) hm po pn r5 fun mm5 n5 _ _ => ?_
    exact aw .isN (q _)
  refine af (.lenL rfl) (af (ju (by decide)) ?_)
  by_cases c : (((gj [] es).map fh).length : Int) % 2 = 0
  · refine cy c (af (.addB (az px.len (by decide))) (af (.addB (sz' (by decide))) ?_))
    refine dd hW (k := 0) (j := 1) H2 (aL z2 (by decide)) hm px pn r2 fun mm3 n3 z3 H3 => ?_
    exact af (.addB (sz' (by decide))) (aw (neN (.atom kR) rfl) (aN rfl (rest _ _ mm3 n3 (ab z3 (aC z2 2)) H3)))
  · refine cn c ?_
    have hh := head_r (S := S) hne
    generalize dueD S es = due at hh r3
    generalize gj [] es = ps at hh rest ⊢
    have fin : Atom due due true → gZ (fW (CallP W (n + 10))) (gZ (el (CallP W (n + 10))) (gM [k, j] 0 σ Q)) .next [.d (.lst (ps.map fh)), .d (.bytes pg), .d (.lst (ws.map .str)), .d (.int m), .hd 0, .d (.bytes [112, 10, 113, 10]), .d (.bytes nrm), .d (.bytes S), .hd 2, e9, .d due, .un] [.inst 108 [.d (.int 4), .hd 1], .bmap mm2 n2, TH] := fun at_ => by
      refine af (.addB (az pq.len (by decide))) (af (.addB (sz' (by decide))) ?_)
      refine dd hW (k := 0) (j := 1) H2 (aL z2 (by decide)) hm pq pn r3 fun mm3 n3 z3 H3 => ?_
      exact aw (.ne (.atom at_)) (aN rfl (rest _ _ mm3 n3 (ab z3 (aC z2 2)) H3))
    induction hh using HeadR.casesOn with
    | plain => exact aM (.it rfl (by decide) rfl) (af (.isiL _) (aN rfl (af (.addB (sz' (by decide))) (fin (by have := kR (a := [112, 10, 120, 10] ++ S) (b := [112, 10, 120, 10] ++ S); rw [decide_eq_true rfl] at this; exact this)))))
    | conf => exact aM (.it rfl (by decide) rfl) (af (.isiT _) (a6 rfl (fin .none)))
end
noncomputable def uk : Pc → D
  | .plain l => .tup [.str "same", c5 l, c5 l, c5 l]
  | .conf b o t => .tup [.str "conflict", c5 b, c5 o, c5 t]
theorem jW {l : List Ln} : DeqL 6 (l.map D.bytes) (l.map D.bytes) true := by
  have h := vH (m := 6) (a := l) (b := l) rfl
  rw [decide_eq_true rfl] at h; exact h
theorem th : ∀ ps : List Pc, DeqL 8 (ps.map uk) (ps.map uk) true
  | [] => .nil
  | .plain _ :: ps => .tup (.atom (Aa rfl) (.lst jW (.lst jW (.lst jW .nil)))) (th ps)
  | .conf _ _ _ :: ps => .tup (.atom (Aa rfl) (.lst jW (.lst jW (.lst jW .nil)))) (th ps)
noncomputable def o4 : Pc → Bool
  | .plain _ => false
  | .conf _ _ _ => true
noncomputable def wc (i : Int) : String := if i = 0 then "ours" else if i = 1 then "theirs" else if i = 2 then "base" else "both"
theorem An {i : Int} : OkW (wc i) := by
  unfold wc
  split
  · exact .ours
  split
  · exact .theirs
  split
  · exact .base
  · exact .both
theorem word_at {j : Int} (h0 : 0 ≤ j) (h1 : j < 4) : ([D.str "ours", .str "theirs", .str "base", .str "both"])[j.toNat]? = some (.str (wc j)) := by
  obtain ⟨k, rfl⟩ := bF h0
  have h : k < 4 := bj.mp h1
  match k, h with
  | 0, _ => rfl
  | 1, _ => rfl
  | 2, _ => rfl
  | 3, _ => rfl
theorem yB : ∀ (n : Nat) (a : Int), ∃ ks : List Int, oM 1 a n = ks.map .int ∧ ks.length = n ∧ ∀ k ∈ ks, a ≤ k ∧ k < a + n
  | 0, a => ⟨[], rfl, rfl, nofun⟩
  | n + 1, a => by
    obtain ⟨ks, e, l, h⟩ := yB n (a + 1)
    refine ⟨a :: ks, congrArg _ e, congrArg (· + 1) l, fun k m => ?_⟩
    cases m with
    | head => exact ⟨cA _, by exact aH (.Q .A (.a .A (.c (.a .A .I)))) rf [_] [_]⟩
    | tail _ m => have := h k m; exact ⟨aH (.L (.a .A .I) .B (.P .A .B)) rf [] [_,_] this.1, aH (.T .A (.a (.a .B .I) (.c .A)) (.Q .A (.a .B (.c (.a .A .I))))) rf [_] [_,_] this.2⟩
theorem cf_nil {es : List Ent} : (gj [] es).filter o4 = [] ↔ es.flatMap gN = [] := by
  rw [← xN, xg, xq]
  constructor <;> intro h p hp <;> have := h p hp <;> induction p using Pc.casesOn
  · rfl
  · exact (this rfl).elim
  · nofun
  · cases this
structure LawOk (m : Nat) (ls : List Ln) (es : List Ent) : Prop where
  gd : ∀ l ∈ ls, Gd l
  n : ls.length ≤ 60
  evs : Evs m ls es
  ok : EsOk es
  ge : EsGd es
  pk : ∀ ws, (fT m es ws).flatten.length ≤ 4000
  cn : ((gj [] es).filter o4).length ≤ 14
  rep : ∀ ws, (∀ u ∈ ws, OkW u) → es.flatMap gN ≠ [] → p7 (fT m es ws).flatten m = true → ∃ nrm e2, Rr m ls.flatten es ws nrm e2
section
variable {W : Wd} {n : Nat} {σ : List MO} {Q : VQ} {v0 v1 v5 v6 v9 v10 v11 v12 : V} {first : Int} {m z : Nat} {mm : Ln → Option Int} {ls : List Ln} {es : List Ent}
theorem law_3 (hW : Wk W) (hm : m ≤ 10) (L : LawOk m ls es) {ws : List String} {v2 v15 : V} (hw : ∀ u ∈ ws, OkW u) (hn : ws.length ≤ 1000) (H : HSt [.inst 108 [.d (.int 4), .hd 1], .bmap mm z] 0 1 mm z) (hz : z ≤ 100) (q : ∀ σ', Q (.d (.bool true)) σ') :
    zg (CallP W (n + 11)) [v0, v1, v2, .d (.int m), .hd 0, v5, v6, .d (.bytes ls.flatten), .d (.lst ((gj [] es).map fh)), v9, v10, v11, v12, .d (.lst (((gj [] es).filter o4).map fh)), .d (.lst (ws.map .str)), v15] [.inst 108 [.d (.int 4), .hd 1], .bmap mm z] (gM [] 0 σ Q) := by
  refine af (.d rfl) (aw (.eq (dR rfl)) ?_)
  by_cases c : (gj [] es).filter o4 = []
  · exact cy (map_nil'.mpr c) (a6 rfl (q _))
  refine cn (fun h => c (map_nil'.mp h)) ?_
  refine jD hW (n := n + 8) hm L.ok hw (ab hn (by decide)) (ab (L.pk ws) (by decide)) ?_
  refine lK hW (n := n + 9) (ab (L.pk ws) (by decide)) (ab hm (by decide)) ?_
  cases hr : p7 (fT m es ws).flatten m with
  | false => exact a6 rfl (a6 rfl (q _))
  | true =>
    obtain ⟨nrm, e2, R⟩ := L.rep ws hw (fun h => c (cf_nil.mpr h)) hr
    exact aN rfl (aN rfl (kY hW (k := 0) (j := 1) H hz hm L.ok hw hn R fun σ' => q _))
end
section
variable {W : Wd} {n : Nat} {σ : List MO} {Q : VQ} {v0 v1 v5 v6 v9 v10 v11 v12 : V} {first : Int} {m z : Nat} {mm : Ln → Option Int} {ls : List Ln} {es : List Ent}
theorem LawOk.page (L : LawOk m ls es) : ls.flatten.length ≤ 960 := ab (gQ L.gd) (aT 16 L.n)
theorem LawOk.ev (L : LawOk m ls es) : Evs m (bU ls.flatten) es := by rw [cR L.gd]; exact L.evs
theorem law_5 (hW : Wk W) (hm : m ≤ 10) (L : LawOk m ls es) {ws : List String} {v15 : V} (hw : ∀ u ∈ ws, OkW u) (hn : ws.length ≤ 1000) (H : HSt [.inst 108 [.d (.int 4), .hd 1], .bmap mm z] 0 1 mm z) (hz : z ≤ 100) (q : ∀ σ', Q (.d (.bool true)) σ') :
    zf (CallP W (n + 11)) [v0, v1, .d (.int first), .d (.int m), .hd 0, v5, v6, .d (.bytes ls.flatten), .d (.lst ((gj [] es).map fh)), v9, v10, v11, v12, .d (.lst (((gj [] es).filter o4).map fh)), .d (.lst (ws.map .str)), v15] [.inst 108 [.d (.int 4), .hd 1], .bmap mm z] (gM [] 0 σ Q) := by
  refine af (qP (by decide) (sS rfl)) (af (ju (by decide)) (bH (.lst rfl) ?_))
  obtain ⟨k, hk⟩ := bF (bV (first / 512) (b := 6) (by decide))
  rw [hk, ez, ← wa]
  have hs : ∀ u ∈ ws.take k, OkW u := fun u h => hw u (nM h)
  refine og hW (n := n + 6) hm (ab L.page (by decide)) L.ev L.ok L.ge hs (ab (L.pk _) (by decide)) ?_
  refine jD hW (n := n + 8) hm L.ok hs (ab (zq _ _) (ab hn (by decide))) (ab (L.pk _) (by decide)) ?_
  exact aw (neN (.atom kR) rfl) (aN rfl (law_3 hW hm L hw hn H hz q))
theorem pow_k {k n : Int} (h0 : 0 ≤ k) (h1 : k < n) (hn : n ≤ 14) : 0 < 2 * (4 : Int) ^ k.toNat ∧ (2 * (4 : Int) ^ k.toNat).natAbs < 1073741824 := by
  obtain ⟨i, rfl⟩ := bF h0
  have h : i < 14 := by exact aH (.T (.c .A) .A (.L .A (.n 14) (.q .A (.n 14)))) rf [_] [_] h1 hn
  rw [b8]
  exact (by decide +kernel : ∀ i, i < 14 → 0 < 2 * (4 : Int) ^ i ∧ (2 * (4 : Int) ^ i).natAbs < 1073741824) i h
theorem rng_ks {len : Nat} (h : len ≤ 14) : ∃ ks : List Int, jG (.rng 0 len 1) = some (ks.map .int) ∧ ks.length = len ∧ ∀ k ∈ ks, 0 ≤ k ∧ k < (len : Int) := by
  have R := yB len 0
  have it := it_1 (a := 0) (b := (len : Int)) (by decide) (by decide) (by exact aH (.P (.g (.n 1000000)) (.c .A)) rf [_] []) (by exact aH (.l .A (.n 14) (.P (.c .A) (.n 1000000))) rf [_] [] h)
  rw [rN, b8] at it
  rw [fN] at R
  exact have ⟨ks, e, l, h⟩ := R; ⟨ks, it.trans (congrArg some e), l, h⟩
theorem law_6 (hW : Wk W) (hm : m ≤ 10) (L : LawOk m ls es) {v14 v15 : V} (H : HSt [.inst 108 [.d (.int 4), .hd 1], .bmap mm z] 0 1 mm z) (hz : z ≤ 100) (q : ∀ σ', Q (.d (.bool true)) σ') :
    zd (CallP W (n + 11)) [v0, v1, .d (.int first), .d (.int m), .hd 0, v5, v6, .d (.bytes ls.flatten), .d (.lst ((gj [] es).map fh)), v9, v10, v11, v12, .d (.lst (((gj [] es).filter o4).map fh)), v14, v15] [.inst 108 [.d (.int 4), .hd 1], .bmap mm z] (gM [] 0 σ Q) := by
  have hl : (((gj [] es).filter o4).map fh).length ≤ 14 := by rw [ah]; exact L.cn
  refine af (.lenL rfl) (af (.range1 _) ?_)
  generalize (((gj [] es).filter o4).map fh).length = len at hl ⊢
  have hl' : (len : Int) ≤ 14 := bM.mpr hl
  have R := rng_ks hl
  generalize (len : Int) = ln at R hl' ⊢
  obtain ⟨ks, it, lk, hk⟩ := R
  refine i6 (d := .rng 0 ln 1) it (by rw [ah, lk]; exact ab hl (by decide)) (qi .int (fun d => .str (wc (first / (2 * 4 ^ d.toNat) % 4))) ks (fun k hm nx acc q => ?_) ?_)
  · have hb := hk k hm
    have hp := pow_k hb.1 hb.2 hl'
    refine a6 rfl (af (.powI hb.1 (by exact aH (.T .A .B (.L .B (.n 14) (.P .A (.n 1000000)))) rf [] [_,_] hb.2 hl') (by decide)) (af (.mulI (by decide)) (af (qP hp.1 hp.2) (af (ju (by decide)) (aM (.tup (bV _ (by decide)) (word_at (bV _ (by decide)) (cM _ (by decide)))) q)))))
  · have := law_5 (v0 := v0) (v1 := v1) (v5 := v5) (v6 := v6) (v9 := v9) (v10 := v10) (v11 := v11) (v12 := v12) (v15 := v15) (first := first) (n := n) (σ := σ) hW hm L (ws := ks.map fun d => wc (first / (2 * 4 ^ d.toNat) % 4)) (fun u h => by obtain ⟨k, _, rfl⟩ := gK.mp h; exact An) (by rw [ah, lk]; exact ab hl (by decide)) H hz q
    rw [ji] at this
    exact this
end
section
variable {W : Wd} {n : Nat} {σ : List MO} {Q : VQ} {v0 v1 v5 v6 v9 v10 v11 v12 : V} {first : Int} {m z : Nat} {mm : Ln → Option Int} {ls : List Ln} {es : List Ent}
theorem law_7 (hW : Wk W) (hm : m ≤ 10) (L : LawOk m ls es) {v14 v15 : V} (H : HSt [.inst 108 [.d (.int 4), .hd 1], .bmap mm z] 0 1 mm z) (hz : z ≤ 10) (q : ∀ σ', Q (.d (.bool true)) σ') :
    zc (CallP W (n + 11)) [v0, v1, .d (.int first), .d (.int m), .hd 0, v5, v6, .d (.bytes ls.flatten), .d (.lst ((gj [] es).map fh)), v9, v10, .d (.bytes (es.flatMap gN).flatten), .d (.bytes (es.flatMap (zL m)).flatten), .d (.lst (((gj [] es).filter o4).map fh)), v14, v15] [.inst 108 [.d (.int 4), .hd 1], .bmap mm z] (gM [] 0 σ Q) := by
  have bb : ∀ {b : Ln}, Atom (.bytes b) (.bytes b) true := fun {b} => by have h := kR (a := b) (b := b); rw [decide_eq_true rfl] at h; exact h
  have hz' := aL hz (by decide : 10 < 200)
  refine eD hW (n := n + 6) H.at_ hz' hm (ab L.page (by decide)) L.ev L.ok (fun h => ?_) (fun h => ?_)
  · refine af (.tuple _) (af (.d rfl) (aw (fe (dR rfl)) (cn (fun n => n (map_nil'.mpr (cf_nil.mpr h))) ?_)))
    exact aw (.ne (.tup (.atom .none (.atom bb .nil)))) (aN rfl (law_6 hW hm L H (ab hz (by decide)) q))
  · have H1 := H.step (es.flatMap gN).flatten
    have d1 := (H.at_.dig_le (es.flatMap gN).flatten).2.2.2
    have z1 := ab d1 (aj hz)
    have te := yE (S1 := (es.flatMap gN).flatten) (S2 := (es.flatMap gN).flatten) H hz'
    have H2 := H1.step (es.flatMap gN).flatten
    have z2 := ab (H1.at_.dig_le (es.flatMap gN).flatten).2.2.2 (aj z1)
    refine af (.tuple _) (af (.d rfl) (aw (fe (dR rfl)) (cy (fun n => h (cf_nil.mp (map_nil'.mp n))) ?_)))
    refine uH hW (n := n + 9) (k := 0) (j := 1) H1.at_ (aL z1 (by decide)) ?_
    rw [te.mpr rfl]
    exact aw (.ne (.tup (.atom bb (.atom bb .nil)))) (aN rfl (law_6 hW hm L H2 (ab z2 (by decide)) q))
theorem law_8 (hW : Wk W) (hm : m ≤ 10) (L : LawOk m ls es) {v13 v14 v15 : V} (H : HSt [.inst 108 [.d (.int 4), .hd 1], .bmap mm z] 0 1 mm z) (hz : z ≤ 10) (q : ∀ σ', Q (.d (.bool true)) σ') :
    zb (CallP W (n + 11)) [v0, v1, .d (.int first), .d (.int m), .hd 0, v5, v6, .d (.bytes ls.flatten), .d (.lst ((gj [] es).map fh)), v9, v10, v11, v12, v13, v14, v15] [.inst 108 [.d (.int 4), .hd 1], .bmap mm z] (gM [] 0 σ Q) := by
  have hg := ab ((iP es []).2 rfl) L.ok.n
  refine tR hW (n := n + 8) hm L.ok L.ge ?_
  refine i6 (d := .lst _) (ds := _) rfl (by rw [ah]; exact ab hg (by decide)) (jX fh o4 (gj [] es) (fun p _ nx acc q => ?_) ?_)
  · induction p using Pc.casesOn with
    | plain l => exact af (.isiL _) (aN rfl (q false rfl))
    | conf b o t => exact af (.isiT _) (a6 rfl (q true rfl))
  · exact law_7 hW hm L H hz q
theorem law_10 (hW : Wk W) (hm : m ≤ 10) (h1 : 1 ≤ m) (L : LawOk m ls es) {v13 v14 v15 : V} (H : HSt [.inst 108 [.d (.int 4), .hd 1], .bmap mm z] 0 1 mm z) (hz : z ≤ 10) (q : ∀ σ', Q (.d (.bool true)) σ') :
    wX (CallP W (n + 11)) [v0, v1, .d (.int first), .d (.int m), .hd 0, .d (c5 ls), v6, .d (.bytes ls.flatten), .d (.lst ((gj [] es).map fh)), .d (.lst ((gj [] es).map uk)), .d (.lst ((gj [] es).map uk)), v11, v12, v13, v14, v15] [.inst 108 [.d (.int 4), .hd 1], .bmap mm z] (gM [] 0 σ Q) := by
  have hm' : m ≤ 1000 := ab hm (by decide)
  refine aw (.ne (.lst rfl rfl (th _))) (aN rfl ?_)
  refine lK hW (n := n + 9) (ab L.page (by decide)) hm' ?_
  refine i6 (d := .lst _) (ds := _) rfl (by rw [ah]; exact ab L.n (by decide)) (jX .bytes (fun l => (bD l m).isSome) ls (fun l hl nx acc q => ?_) ?_)
  · refine qN hW (n := n + 10) (L.gd l hl) h1 hm' ?_
    cases e : bD l m with
    | none => exact aw (.ne (r := true) (.atom (Aa (by decide)))) (aN rfl (q false (by rw [e]; rfl)))
    | some t => exact aw (.ne (.atom (Aa (kd t (rV e))))) (a6 rfl (q true (by rw [e]; rfl)))
  · refine af (.d rfl) (aw (.eq (dR rfl)) (aw (.ne (.atom (.bool _ _))) ?_))
    have e : (p7 ls.flatten m == decide ((ls.filter fun l => (bD l m).isSome).map D.bytes = [])) = true := by
      unfold p7
      rw [cR L.gd, decide_eq_decide.mpr map_nil', beq_self_eq_true]
    exact aN (congrArg not e) (aN rfl (law_8 hW hm L H hz q))
end
section
variable {W : Wd} {n : Nat} {σ : List MO} {Q : VQ} {v0 v1 : V} {first : Int} {m : Nat} {ls : List Ln} {es : List Ent}
theorem law_13 (hW : Wk W) (hm : m ≤ 10) (h1 : 1 ≤ m) (L : LawOk m ls es) {v6 v7 v8 v9 v10 v11 v12 v13 v14 v15 : V} (q : ∀ σ', Q (.d (.bool true)) σ') :
    wW (CallP W (n + 11)) [v0, v1, .d (.int first), .d (.int m), .hd 0, .d (c5 ls), v6, v7, v8, v9, v10, v11, v12, v13, v14, v15] [.inst 108 [.d (.int 4), .hd 1], .bmap (fun _ => none) 0] (gM [] 0 σ Q) := by
  have H : HSt [.inst 108 [.d (.int 4), .hd 1], .bmap (fun _ => none) 0] 0 1 (fun _ => none) 0 := ⟨⟨rfl, rfl, nofun⟩, nofun⟩
  have hm' : m ≤ 1000 := ab hm (by decide)
  have hg : (gj [] es).length ≤ 16777216 := ab ((iP es []).2 rfl) (ab L.ok.n (by decide))
  refine af (.joinB rfl (ab L.page (by decide))) (xU hW (n := n + 9) h1 hm' L.gd (ab L.n (by decide)) L.evs ?_)
  refine fS hW (n := n + 7) hm' (ab L.page (by decide)) L.ev ?_
  refine i6 (d := .lst _) (ds := _) rfl (by rw [ah]; exact hg) (qi vf uk (gj [] es) (fun p _ nx acc q => ?_) ?_)
  · induction p using Pc.casesOn <;> exact a6 rfl q
  refine i6 (d := .lst _) (ds := _) rfl (by rw [ah]; exact hg) (qi fh uk (gj [] es) (fun p _ nx acc q => ?_) ?_)
  · induction p using Pc.casesOn with
    | plain l => exact a6 rfl (af (.isiL _) (aN rfl q))
    | conf b o t => exact a6 rfl (af (.isiT _) (a6 rfl (aM (.tup (by decide) rfl) (aM (.tup (by decide) rfl) (aM (.tup (by decide) rfl) q)))))
  · exact law_10 hW hm h1 L H (aY _) q
theorem ux (hW : Wk W) {Q : FX} {v2 v4 v7 v8 v9 v10 v11 v12 v13 v14 v15 : V} {mi : Nat} (hm : mi + 2 ≤ 1000) {j : List MO} : ∀ (cs : List Int) {F : List Ln} {v6 : V}, F.length + (cs.flatMap fun y => iZ y mi).length ≤ 1000 →
    (∀ v6, Q .next [v0, v1, v2, .d (.int (mi + 1 : Nat)), v4, .d (c5 (F ++ cs.flatMap fun y => iZ y mi)), v6, v7, v8, v9, v10, v11, v12, v13, v14, v15] j) →
    gl (zh (CallP W (n + 2))) 6 (cs.map .int) [v0, v1, v2, .d (.int (mi + 1 : Nat)), v4, .d (c5 F), v6, v7, v8, v9, v10, v11, v12, v13, v14, v15] j Q
  | [], F, v6, _, q => by rw [ct, ar] at q; exact q _
  | y :: cs, F, v6, hz, q => by
    rw [aF, ← ag] at q
    rw [aF, ac, ← aZ] at hz
    exact vy hW hm (af (bW (a := F) (b := iZ y mi) (ab (aG hz) (by decide))) (ux hW hm cs (F := F ++ iZ y mi) (v6 := .d (.int y)) (by rw [ac]; exact hz) q))
theorem law_ok (hW : Wk W) (H : ∀ (mi : Nat) (cs : List Int), mi = 2 ∨ mi = 6 → cs.length ≤ 4 → ∃ es, LawOk (mi + 1) (cs.flatMap fun y => iZ y mi) es) {ns : List Int} (q : ∀ σ', Q (.d (.bool true)) σ') : CallP W (n + 12) 620 [.d (.lst (ns.map .int))] σ Q := by
  refine nD hW (ws := [.d (.lst (ns.map .int))]) rfl rfl rfl ?_
  refine bH (.lst rfl) ?_
  rw [bZ, show a9 ns none (some 5) = ns.take 5 from ez ns 5]
  have hc : (ns.take 5).length ≤ 5 := List.length_take_le _ _
  generalize ns.take 5 = cs at hc ⊢
  refine i6 (d := .lst _) (ds := _) rfl (by rw [ah]; exact ab hc (by decide)) (qi .int .int cs (fun p _ nx acc q => a6 rfl (af (.int _) q)) ?_)
  have rest : ∀ first : Int, wU (CallP W (n + 11)) [.d (.lst (ns.map .int)), .d (.lst (cs.map .int)), .d (.int first), .un, .un, .un, .un, .un, .un, .un, .un, .un, .un, .un, .un, .un] [] (gM [] 0 σ Q) := fun first => by
    have go : ∀ mi : Nat, mi = 2 ∨ mi = 6 → gZ (wV (CallP W (n + 11))) (gM [] 0 σ Q) .next [.d (.lst (ns.map .int)), .d (.lst (cs.map .int)), .d (.int first), .d (.int (mi + 1 : Nat)), .hd 0, .d (c5 []), .un, .un, .un, .un, .un, .un, .un, .un, .un, .un] [.inst 108 [.d (.int 4), .hd 1], .bmap (fun _ => none) 0] := fun mi hmi => by
      have hd : (cs.drop 1).length ≤ 4 := by rw [ik]; exact hmi.elim (fun h3 => (l7 ..).elim (fun h2 => aH (.e (.a .A .I) .B (.l .B (.n 5) (.p .A (.n 4)))) rf [_,_] [] (aJ h2) hc) fun h2 => aH (.e .A .O (.p .A (.n 4))) rf [_] [] (zk h2)) fun h3 => (l7 ..).elim (fun h2 => aH (.e (.a .A .I) .B (.l .B (.n 5) (.p .A (.n 4)))) rf [_,_] [] (aJ h2) hc) fun h2 => aH (.e .A .O (.p .A (.n 4))) rf [_] [] (zk h2)
      obtain ⟨es, L⟩ := H mi (cs.drop 1) hmi hd
      refine bH (.lst rfl) ?_
      rw [bZ, show a9 cs (some 1) none = cs.drop 1 from kj cs 1]
      refine ef (d := .lst _) rfl (ux hW (n := n + 9) (F := []) (by exact hmi.elim (fun h3 => aH (.e .A (.n 2) (.p (.a .A (.n 2)) (.n 1000))) rf [_] [] h3) fun h3 => aH (.e .A (.n 6) (.p (.a .A (.n 2)) (.n 1000))) rf [_] [] h3) (cs.drop 1) (ab (aW (aS _)) (ab L.n (by decide))) fun v6 => ?_)
      exact law_13 hW (by exact hmi.elim (fun h3 => aH (.e .A (.n 2) (.p (.a .A .I) (.n 10))) rf [_] [] h3) fun h3 => aH (.e .A (.n 6) (.p (.a .A .I) (.n 10))) rf [_] [] h3) (aK 1 mi) L q
    refine af (ju (by decide)) ?_
    rcases Int.emod_two_eq first with e | e
    · rw [e]
      exact aM (.tup (by decide) rfl) (sX hW (n := n + 9) (af (.d rfl) (go 2 (.inl rfl))))
    · rw [e]
      exact aM (.tup (by decide) rfl) (sX hW (n := n + 9) (af (.d rfl) (go 6 (.inr rfl))))
  refine af (.d rfl) (aw (fe (dR rfl)) ?_)
  induction cs using List.casesOn with
  | nil => exact cn (fun h => h rfl) (rest 0)
  | cons x cs => exact cy (fun h => nomatch h) (aM (.it rfl (by decide) rfl) (rest x))
end
section
variable {m : Nat} {s : List Ln}
inductive Starts (m : Nat) : List Ln → Prop
  | nil : Starts m []
  | cons {l r} (h : bD l m = some 0) : Starts m (l :: r)
theorem Starts.rd {k : Nat} {p0 p1 p2 : List Ln} (h : Starts m s) : Rd m none s k p0 p1 p2 := by
  induction h using Starts.casesOn with
  | nil => exact .nil rfl
  | cons h => exact .stop h (fun h => nomatch h.1) (fun h => gc _ h.1) rfl
noncomputable def appO (s : List Ln) (o : uf) : uf := match o with | none => none | some (a, b, c, r) => some (a, b, c, r ++ s)
theorem Rd.app {o : uf} {ls p0 p1 p2 : List Ln} {k : Nat} (hs : Starts m s) (h : Rd m o ls k p0 p1 p2) : Rd m (appO s o) (ls ++ s) k p0 p1 p2 := by
  induction h with
  | nil e => subst e; exact hs.rd
  | put0 h _ ih => exact .put0 h ih
  | put1 h _ ih => exact .put1 h ih
  | put2 h _ ih => exact .put2 h ih
  | next h a b _ ih => exact .next h a b ih
  | done h e => subst e; exact .done h rfl
  | stop h a b e => subst e; exact .stop h a b rfl
theorem Evs.app {ls : List Ln} {es es' : List Ent} (h : Evs m ls es) (h' : Evs m s es') (hs : Starts m s) : Evs m (ls ++ s) (es ++ es') := by
  induction h with
  | nil => exact h'
  | ln h _ ih => exact .ln (fun e => (h e).app hs) ih
  | cf h c _ ih => exact .cf h (c.app hs) ih
theorem Rd.pl0 {O : uf} {p1 p2 : List Ln} : ∀ {o p0 : List Ln}, (∀ l ∈ o, bD l m = none) → Rd m O s 0 (p0 ++ o) p1 p2 → Rd m O (o ++ s) 0 p0 p1 p2
  | [], p0, _, h => by rw [ar] at h; exact h
  | l :: o, p0, n, h => .put0 (n l (.head _)) (Rd.pl0 (fun x m => n x (.tail _ m)) (by rw [ag]; exact h))
theorem Rd.pl2 {O : uf} {p0 p1 : List Ln} : ∀ {o p2 : List Ln}, (∀ l ∈ o, bD l m = none) → Rd m O s 2 p0 p1 (p2 ++ o) → Rd m O (o ++ s) 2 p0 p1 p2
  | [], p0, _, h => by rw [ar] at h; exact h
  | l :: o, p0, n, h => .put2 (n l (.head _)) (Rd.pl2 (fun x m => n x (.tail _ m)) (by rw [ag]; exact h))
theorem g7 {i : Nat} (hi : i < 4) (hm : 1 ≤ m) : bD (cw i m []) m = some i := by
  have e : cw i m [] = ay m (qG i) ++ [10] := by unfold cw; rw [ar]
  refine wz hm hi ?_ (.inl ?_)
  · rw [e, List.take_left' be]
  · rw [e, List.drop_left' be]
theorem mr {o t : List Ln} : de m o [] t ++ s = cw 0 m [] :: (o ++ (cw 2 m [] :: (t ++ (cw 3 m [] :: s)))) := by
  unfold de
  rw [if_pos rfl, ar, ag, ag, ag, ag]; rfl
theorem za {o t : List Ln} (hm : 1 ≤ m) (ho : ∀ l ∈ o, bD l m = none) (ht : ∀ l ∈ t, bD l m = none) : Rd m (some (o, [], t, s)) (o ++ (cw 2 m [] :: (t ++ (cw 3 m [] :: s)))) 0 [] [] [] :=
  .pl0 ho (.next (g7 (by decide) hm) (by decide) (by decide) (.pl2 ht (.done (g7 (by decide) hm) rfl)))
noncomputable abbrev Sd := List Ln → List Ln → List Ln × List Ln
noncomputable def rE (m : Nat) (f : Sd) : Ent → List Ln
  | .ln l => [l]
  | .cf _ o t => de m (f o t).1 [] (f o t).2
noncomputable def mE (f : Sd) : Ent → Ent
  | .ln l => .ln l
  | .cf _ o t => .cf [] (f o t).1 (f o t).2
theorem AJ {f : Sd} {b o t : List Ln} {es : List Ent} : (Ent.cf b o t :: es).flatMap (rE m f) = cw 0 m [] :: ((f o t).1 ++ (cw 2 m [] :: ((f o t).2 ++ (cw 3 m [] :: es.flatMap (rE m f))))) := aF.trans mr
theorem zC {f : Sd} {ls : List Ln} {es : List Ent} (hm : 1 ≤ m) (h : Evs m ls es) : ∀ {k : Nat} {p0 p1 p2 q0 q1 q2 : List Ln}, Rd m none ls k p0 p1 p2 → Rd m none (es.flatMap (rE m f)) k q0 q1 q2 := by
  induction h with
  | nil => exact fun _ => .nil rfl
  | ln _ _ ih =>
    intro k p0 p1 p2 q0 q1 q2 h
    rw [aF]
    cases h with
    | put0 h i => exact .put0 h (ih i)
    | put1 h i => exact .put1 h (ih i)
    | put2 h i => exact .put2 h (ih i)
    | next h a b i => exact .next h a b (ih i)
    | done h e => cases e
    | stop h a b e => exact .stop h a b e
  | cf => intro k p0 p1 p2 q0 q1 q2 _; rw [AJ]; exact Starts.rd (.cons (g7 (by decide) hm))
theorem Evs.rend {f : Sd} {ls : List Ln} {es : List Ent} (hm : 1 ≤ m) (h : Evs m ls es) : (∀ b o t, Ent.cf b o t ∈ es → (∀ l ∈ (f o t).1, bD l m = none) ∧ ∀ l ∈ (f o t).2, bD l m = none) → Evs m (es.flatMap (rE m f)) (es.map (mE f)) := by
  induction h with
  | nil => exact fun _ => .nil
  | ln h k ih => exact fun g => aF ▸ .ln (fun e => zC hm k (h e)) (ih fun b o t m => g b o t (.tail _ m))
  | cf _ _ _ ih =>
    intro g
    have s := g _ _ _ (.head _)
    rw [AJ]
    exact .cf (g7 (by decide) hm) (za hm s.1 s.2) (ih fun b o t m => g b o t (.tail _ m))
noncomputable def xZ : List Ent → Nat
  | [] => 0
  | .ln _ :: es => xZ es + 1
  | .cf b o t :: es => b.length + o.length + t.length + 3 + xZ es
theorem Rd.len {o : uf} {a b c r ls p0 p1 p2 : List Ln} {k : Nat} (e : o = some (a, b, c, r)) (h : Rd m o ls k p0 p1 p2) : a.length + b.length + c.length + r.length + 3 ≤ p0.length + p1.length + p2.length + ls.length + max 1 k := by
  subst e
  induction h with
  | nil e => cases e
  | stop _ _ _ e => cases e
  | done _ e => cases e; rw [ao]; have : max 1 2 = 2 := rfl; exact aH (.i (.n 2) .A (.p (.a (.a (.a (.a .B .C) .D) .F) (.n 3)) (.a (.a (.a (.a .B .C) .D) (.a .F .I)) .A))) rf [_,_,_,_,_] [] this
  | put0 _ _ ih => rw [ac] at ih; rw [ao]; simp only [ao, bK] at ih; exact aH (.l (.a (.a (.a (.a .A .B) .C) .D) (.n 3)) (.a (.a (.a (.a (.a .F (.a .O .I)) .G) .H) (.v 7)) (.v 8)) (.p (.a (.a (.a (.a .A .B) .C) .D) (.n 3)) (.a (.a (.a (.a .F .G) .H) (.a (.v 7) .I)) (.v 8)))) rf [_,_,_,_,_,_,_,_,_] [] ih
  | put1 _ _ ih => rw [ac] at ih; rw [ao]; simp only [ao, bK] at ih; exact aH (.l (.a (.a (.a (.a .A .B) .C) .D) (.n 3)) (.a (.a (.a (.a .F (.a .G (.a .O .I))) .H) (.v 7)) (.v 8)) (.p (.a (.a (.a (.a .A .B) .C) .D) (.n 3)) (.a (.a (.a (.a .F .G) .H) (.a (.v 7) .I)) (.v 8)))) rf [_,_,_,_,_,_,_,_,_] [] ih
  | put2 _ _ ih => rw [ac] at ih; rw [ao]; simp only [ao, bK] at ih; exact aH (.l (.a (.a (.a (.a .A .B) .C) .D) (.n 3)) (.a (.a (.a (.a .F .G) (.a .H (.a .O .I))) (.v 7)) (.v 8)) (.p (.a (.a (.a (.a .A .B) .C) .D) (.n 3)) (.a (.a (.a (.a .F .G) .H) (.a (.v 7) .I)) (.v 8)))) rf [_,_,_,_,_,_,_,_,_] [] ih
  | @next _ _ k t _ _ _ _ _ h3 _ ih => rw [ao]; have h1 : max 1 k ≥ 1 := Nat.le_max_left ..; have h2 : max 1 t ≤ 2 := Nat.max_le.mpr ⟨by decide, dY h3⟩; exact aH (.l (.a (.a (.a (.a .A .B) .C) .D) (.n 3)) (.a (.a (.a (.a .F .G) .H) (.v 7)) (.v 8)) (.l (.v 8) (.n 2) (.l .I (.v 9) (.p (.a (.a (.a (.a .A .B) .C) .D) (.n 3)) (.a (.a (.a (.a .F .G) .H) (.a (.v 7) .I)) (.v 9)))))) rf [_,_,_,_,_,_,_,_,_,_] [] ih h2 h1
theorem Evs.len {ls : List Ln} {es : List Ent} (h : Evs m ls es) : xZ es ≤ ls.length := by
  induction h with
  | nil => exact au _
  | ln _ _ ih => exact aj ih
  | cf _ c _ ih =>
    have := c.len rfl
    rw [bK, Nat.max_eq_left (by decide : 0 ≤ 1)] at this
    show _ + 3 + xZ _ ≤ _ + 1
    exact aH (.l .A .B (.l (.a (.a (.a (.a .C .D) .F) .B) (.n 3)) (.a (.a (.a (.a .O .O) .O) .G) .I) (.p (.a (.a (.a (.a .D .C) .F) (.n 3)) .A) (.a .G .I)))) rf [_,_,_,_,_,_] [] ih this
theorem Rd.all {P : Ln → Prop} {o : uf} {a b c r ls p0 p1 p2 : List Ln} {k : Nat} (e : o = some (a, b, c, r)) (h : Rd m o ls k p0 p1 p2) : (∀ l ∈ ls, P l) → (∀ l ∈ p0, P l ∧ bD l m = none) → (∀ l ∈ p1, P l ∧ bD l m = none) → (∀ l ∈ p2, P l ∧ bD l m = none) → ((∀ l ∈ a, P l ∧ bD l m = none) ∧ (∀ l ∈ b, P l ∧ bD l m = none) ∧ ∀ l ∈ c, P l ∧ bD l m = none) ∧ ∀ l ∈ r, P l := by
  subst e
  induction h with
  | nil e => cases e
  | stop _ _ _ e => cases e
  | done _ e => cases e; exact fun h a b c => ⟨⟨a, b, c⟩, fun l m => h l (.tail _ m)⟩
  | put0 e _ ih => exact fun h a b c => ih (fun l m => h l (.tail _ m)) (fc a ⟨h _ (.head _), e⟩) b c
  | put1 e _ ih => exact fun h a b c => ih (fun l m => h l (.tail _ m)) a (fc b ⟨h _ (.head _), e⟩) c
  | put2 e _ ih => exact fun h a b c => ih (fun l m => h l (.tail _ m)) a b (fc c ⟨h _ (.head _), e⟩)
  | next _ _ _ _ ih => exact fun h a b c => ih (fun l m => h l (.tail _ m)) a b c
structure EsP (P : Ln → Prop) (m : Nat) (es : List Ent) : Prop where
  ln : ∀ l, Ent.ln l ∈ es → P l
  cf : ∀ b o t, Ent.cf b o t ∈ es → (∀ l ∈ b, P l ∧ bD l m = none) ∧ (∀ l ∈ o, P l ∧ bD l m = none) ∧ ∀ l ∈ t, P l ∧ bD l m = none
theorem Evs.all {P : Ln → Prop} {ls : List Ln} {es : List Ent} (h : Evs m ls es) : (∀ l ∈ ls, P l) → EsP P m es := by
  induction h with
  | nil => exact fun _ => ⟨nofun, nofun⟩
  | ln _ _ ih =>
    exact fun h => have i := ih fun l m => h l (.tail _ m); ⟨fun l m => by cases m with | head => exact h _ (.head _) | tail _ m => exact i.ln l m, fun b o t m => by cases m with | tail _ m => exact i.cf b o t m⟩
  | cf _ c _ ih =>
    exact fun h =>
      have ⟨⟨a, b, c⟩, r⟩ := c.all rfl (fun l m => h l (.tail _ m)) nofun nofun nofun
      have i := ih r
      ⟨fun l m => by cases m with | tail _ m => exact i.ln l m, fun _ _ _ m => by cases m with | head => exact ⟨b, a, c⟩ | tail _ m => exact i.cf _ _ _ m⟩
end
theorem s6 {α β : Type} {f g : α → List (List β)} : ∀ {es : List α}, (∀ e ∈ es, (f e).flatten = (g e).flatten) → (es.flatMap f).flatten = (es.flatMap g).flatten
  | [], _ => rfl
  | x :: r, h => by rw [aF, aF, cx, cx, h x (.head _), s6 fun e m => h e (.tail _ m)]
theorem Bn {α : Type} {P : Ln → Prop} {f : α → List Ln} {es : List α} (h : ∀ e ∈ es, ∀ x ∈ f e, P x) : ∀ x ∈ es.flatMap f, P x := fun x m => have ⟨e, he, hx⟩ := r9.mp m; h e he x hx
theorem oR {i m : Nat} (hi : i < 4) (hm : m ≤ 10) : Gd (cw i m []) := by
  refine ⟨ay m (qG i), by unfold cw; rw [ar], fun c hc => ?_, by rw [be]; exact ab hm (by decide)⟩
  rw [fZ hc]
  exact (by decide : ∀ i, i < 4 → qG i ≠ 10 ∧ qG i ≠ 13) i hi
theorem qv {m : Nat} {a o t : List Ln} (hm : m ≤ 10) (ha : ∀ x ∈ a, Gd x) (ho : ∀ x ∈ o, Gd x) (ht : ∀ x ∈ t, Gd x) : ∀ x ∈ de m a o t, Gd x := by
  unfold de
  refine dr (dr (dr (dr (dD (oR (by decide) hm)) ha) ?_) (dD (oR (by decide) hm))) ht |> fun h => dr h (dD (oR (by decide) hm))
  split
  · exact nofun
  · exact fun x m => by cases m with | head => exact oR (by decide) hm | tail _ m => exact ho x m
theorem uN {m : Nat} {a b : List Ln} : (de m a [] b).flatten = cw 0 m [] ++ (a.flatten ++ (cw 2 m [] ++ (b.flatten ++ cw 3 m []))) := by
  have e := mr (m := m) (s := []) (o := a) (t := b)
  rw [ar] at e
  rw [e, b6, cx, b6, cx, eM]
structure yp (f : Sd) : Prop where
  mem : ∀ {P : Ln → Prop} {o t : List Ln}, (∀ x ∈ o, P x) → (∀ x ∈ t, P x) → (∀ x ∈ (f o t).1, P x) ∧ ∀ x ∈ (f o t).2, P x
  len : ∀ {o t : List Ln}, (f o t).1.length + (f o t).2.length = o.length + t.length
  sd : ∀ {o t : List Ln}, (∀ x ∈ o, Gd x) → (∀ x ∈ t, Gd x) → bX (f o t).1 (f o t).2 = bX o t
theorem u6 : yp fun o t => (t, o) := ⟨fun h h' => ⟨h', h⟩, bq _ _, fun h h' => qF h h'⟩
theorem pZ : yp sp := by
  have key : ∀ {o t p}, Srt o t p → (p = (o, t) ∨ p = (t, o)) := fun h => by induction h using Srt.casesOn with | le => exact .inl rfl | gt => exact .inr rfl
  refine ⟨fun {P o t} h h' => ?_, fun {o t} => ?_, fun {o t} h h' => ?_⟩ <;> rcases key (AC (o := o) (t := t)) with e | e <;> rw [e]
  · exact ⟨h, h'⟩
  · exact ⟨h', h⟩
  · exact bq _ _
  · exact qF h h'
structure Doc (m : Nat) (L : List Ln) (es : List Ent) : Prop where
  gd : ∀ l ∈ L, Gd l
  n : L.length ≤ 50
  evs : Evs m L es
section
variable {m : Nat} {L : List Ln} {es : List Ent}
theorem xY : ∀ {es : List Ent}, es.length ≤ xZ es
  | [] => au _
  | .ln _ :: _ => aj xY
  | .cf _ _ _ :: es => by have := xY (es := es); show _ + 1 ≤ _ + 3 + xZ es; exact aH (.l .A .B (.p (.a .A .I) (.a (.a (.a (.a .C .D) .F) (.n 3)) .B))) rf [_,_,_,_,_] [] this
theorem es_cf {es : List Ent} {b o t : List Ln} : Ent.cf b o t ∈ es → b.length + o.length + t.length ≤ xZ es := by
  induction es with
  | nil => exact fun h => absurd h bJ
  | cons e es ih =>
    intro h
    cases h with
    | head => exact ab (ai _ 3) (ai _ _)
    | tail _ h =>
      induction e using Ent.casesOn with
      | ln => exact bg (ih h)
      | cf => exact ab (ih h) (aK _ _)
theorem Doc.ps (D : Doc m L es) : EsP Gd m es := D.evs.all D.gd
theorem Doc.sum (D : Doc m L es) : xZ es ≤ 50 := ab D.evs.len D.n
theorem EsP.gd (h : EsP Gd m es) : EsGd es := ⟨h.ln, fun b o t k => have ⟨x, y, z⟩ := h.cf b o t k; ⟨fun l m => (x l m).1, fun l m => (y l m).1, fun l m => (z l m).1⟩⟩
theorem Doc.ok (D : Doc m L es) : EsOk es := by
  have g := D.ps.gd
  refine ⟨ab xY (ab D.sum (by decide)), fun l k => ab (g.ln l k).len (by decide), fun b o t k => ?_⟩
  have h := ab (es_cf k) (ab D.sum (by decide : 50 ≤ 60))
  exact have ⟨x, y, z⟩ := g.cf b o t k; ⟨.good x (ab (ai _ _) (aG h)), .good y (ab (aK _ _) (aG h)), .good z (ab (aK _ _) h)⟩
theorem Doc.pg (D : Doc m L es) (ne : es.flatMap gN ≠ []) : Pg m L.flatten es := ⟨ab (gQ D.gd) (ab (aT 16 D.n) (by decide)), by rw [cR D.gd]; exact D.evs, D.ok, ne⟩
theorem yL {f : Sd} (F : yp f) (hm : m ≤ 10) (g : EsGd es) : ∀ x ∈ es.flatMap (rE m f), Gd x := Bn fun e k => by
  induction e using Ent.casesOn with
  | ln l => exact dD (g.ln l k)
  | cf b o t =>
    have ⟨_, y, z⟩ := g.cf b o t k
    have s := F.mem y z
    exact qv hm s.1 nofun s.2
theorem ve {f : Sd} (F : yp f) : ∀ {es : List Ent}, (es.flatMap (rE m f)).length ≤ xZ es
  | [] => au _
  | .ln _ :: es => aj (ve F)
  | .cf b o t :: es => by
    have h := ve F (es := es)
    have l := F.len (o := o) (t := t)
    have e : ((Ent.cf b o t :: es).flatMap (rE m f)).length = ((f o t).1.length + (f o t).2.length + 3) + (es.flatMap (rE m f)).length := by
      rw [aF, ac]; exact congrArg (· + _) ph
    rw [e, l]
    show _ ≤ _ + 3 + xZ es
    exact aH (.l .A .B (.p (.a (.a (.a .C .D) (.n 3)) .A) (.a (.a (.a (.a .F .C) .D) (.n 3)) .B))) rf [_,_,_,_,_] [] h
theorem Doc.re {f : Sd} (D : Doc m L es) (F : yp f) (h1 : 1 ≤ m) (hm : m ≤ 10) : Doc m (es.flatMap (rE m f)) (es.map (mE f)) :=
  ⟨yL F hm D.ps.gd, ab (ve F) D.sum, D.evs.rend h1 fun b o t k => have ⟨_, y, z⟩ := D.ps.cf b o t k; F.mem (fun l m => (y l m).2) fun l m => (z l m).2⟩
theorem yN {f : Sd} (F : yp f) : ∀ {es : List Ent}, EsGd es → (es.map (mE f)).flatMap gN = es.flatMap gN
  | [], _ => rfl
  | .ln _ :: es, g => yN F (es := es) g.tail
  | .cf b o t :: es, g => by
    have ⟨_, y, z⟩ := g.cf b o t (.head _)
    rw [cG, aF, aF, yN F g.tail]
    show [(bX (f o t).1 (f o t).2).1, [0], (bX (f o t).1 (f o t).2).2, [0]] ++ _ = [(bX o t).1, [0], (bX o t).2, [0]] ++ _
    rw [F.sd y z]
theorem rU (g : EsGd es) : (es.flatMap (zL m)).flatten = (es.flatMap (rE m sp)).flatten := s6 fun e k => by
  induction e using Ent.casesOn with
  | ln l => rfl
  | cf b o t =>
    have ⟨_, y, z⟩ := g.cf b o t k
    show (nF m (.conf b o t)).flatten = (de m (sp o t).1 [] (sp o t).2).flatten
    rw [← r0, uN, uN, xE y z, eM, eM]
theorem nF_mE {f : Sd} (F : yp f) (g : EsGd es) : ((es.map (mE f)).flatMap (zL m)).flatten = (es.flatMap (zL m)).flatten := by
  rw [List.flatMap_map]
  refine s6 fun e k => ?_
  induction e using Ent.casesOn with
  | ln l => rfl
  | cf b o t =>
    have ⟨_, y, z⟩ := g.cf b o t k
    show (nF m (.conf [] (f o t).1 (f o t).2)).flatten = (nF m (.conf b o t)).flatten
    rw [← r0, ← r0, F.sd y z]
end
inductive Al : Bool → List Ln → List Ln → Nat → Nat → List dA → Prop
  | nil {f S i j} : Al f S S i j []
  | cons {f i j r A C} (g da dc : List Ln) (h : f = false → g ≠ []) (ne : da ≠ [] ∨ dc ≠ []) (k : Al false A C (i + g.length + da.length) (j + g.length + dc.length) r) : Al f (g ++ (da ++ A)) (g ++ (dc ++ C)) i j (⟨i + g.length, i + g.length + da.length, j + g.length, j + g.length + dc.length⟩ :: r)
theorem Al.loose {f : Bool} {A C : List Ln} {i j : Nat} {cs : List dA} (h : Al f A C i j cs) : Al true A C i j cs := by
  induction h using Al.casesOn with
  | nil => exact .nil
  | cons g da dc _ ne k => exact .cons g da dc nofun ne k
theorem Al.push {f : Bool} {x : Ln} {A C : List Ln} {i j : Nat} {cs : List dA} (h : Al f A C (i + 1) (j + 1) cs) : Al false (x :: A) (x :: C) i j cs := by
  cases h with
  | nil => exact .nil
  | cons g da dc _ ne k =>
    have e : ∀ n : Nat, n + 1 + g.length = n + (g.length + 1) := fun n => by rw [aZ, bq 1]
    rw [e, e] at k ⊢
    exact .cons (x :: g) da dc nofun ne k
theorem Al.pop {f : Bool} {x y : Ln} {A C : List Ln} {i j : Nat} {cs : List dA} (h : Al f (x :: A) (y :: C) i j cs) (hc : ∀ c, cs.head? = some c → i < c.a0) : Al true A C (i + 1) (j + 1) cs := by
  generalize hX : x :: A = X at h
  generalize hY : y :: C = Y at h
  induction h using Al.casesOn with
  | nil => cases hX; cases hY; exact .nil
  | cons g da dc _ ne k =>
    induction g using List.casesOn with
    | nil => exact absurd (hc _ rfl) (bA _)
    | cons z g =>
      cases hX; cases hY
      have e : ∀ n : Nat, n + (g.length + 1) = n + 1 + g.length := fun n => by rw [aZ, bq 1]
      rw [ao, e, e] at k ⊢
      exact .cons g da dc nofun ne k
theorem Al.skip {A C : List Ln} {cs : List dA} : ∀ {p : List Ln} {f : Bool} {i j : Nat}, Al f (p ++ A) (p ++ C) i j cs → (∀ c, cs.head? = some c → i + p.length ≤ c.a0) → Al true A C (i + p.length) (j + p.length) cs
  | [], _, _, _, h, _ => h.loose
  | x :: p, _, i, j, h, hc => by
    have e : ∀ n : Nat, n + (p.length + 1) = n + 1 + p.length := fun n => by rw [aZ, bq 1]
    rw [ao, e] at hc
    rw [ao, e, e]
    exact Al.skip (h.pop fun c m => ax (ax (bw i) (ai _ _)) (hc c m)) hc
theorem yX {ls : List Ln} {i : Nat} {x : Ln} (h : ls[i]? = some x) : ls.drop i = x :: ls.drop (i + 1) := by
  obtain ⟨h', e⟩ := aQ.mp h
  rw [dP h', e]
theorem wN {ls : List Ln} {i j : Nat} (h : i ≤ j) (hj : j ≤ ls.length) : ∃ g, ls.drop i = g ++ ls.drop j ∧ j = i + g.length := by
  refine ⟨(ls.drop i).take (j - i), ?_, ?_⟩
  · have := (mv (j - i) (ls.drop i)).symm
    rwa [List.drop_drop, ew h] at this
  · rw [kU, ik, dt (Nat.sub_le_sub_right hj i), ew h]
theorem Dfs.al {A B : List Ln} {cs : List dA} {i j : Nat} (h : Dfs A B cs i j) : ∀ (f : Bool) (tail : List dA), (f = true → sU cs i) → Al f (A.drop i) (B.drop j) i j tail → Al true A B 0 0 (cs ++ tail) := by
  induction h with
  | nil => exact fun _ _ _ h => h.loose
  | step _ a b ih =>
    exact fun f tail _ h => ih false tail nofun (by rw [yX a, yX b]; exact h.push)
  | @chg cs i j i' j' hd lo li lj ne la lb ih =>
    intro f tail hf h
    induction f using Bool.casesOn with
    | true => exact absurd (hf rfl ⟨i, i', j, j'⟩ (by rw [nN]; rfl)) (bA _)
    | false =>
      rw [ag]
      refine ih true _ (fun _ => lo) ?_
      obtain ⟨g, eg, rfl⟩ := wN li la
      obtain ⟨g', eg', rfl⟩ := wN lj lb
      rw [eg, eg']
      exact .cons [] g g' nofun (ne.imp (fun h e => by subst e; exact bA _ h) fun h e => by subst e; exact bA _ h) h
theorem LDiff.al {A B : List Ln} {cs : List dA} (h : LDiff A B cs) : Al true A B 0 0 cs := by
  have := h.dfs.al false [] nofun (by rw [il, il]; exact .nil)
  rwa [ar] at this
theorem LDiff.pre {p A B : List Ln} {cs : List dA} (h : LDiff (p ++ A) (p ++ B) cs) : ∀ c ∈ cs, p.length ≤ c.a0 ∧ p.length ≤ c.b0 := by
  obtain ⟨u, v, _, _, mx, _, rg⟩ := h.reg
  have hu := mx p.length (by rw [ac]; exact ai _ _) (by rw [ac]; exact ai _ _) fun i hi => by rw [bG hi, bG hi]
  exact fun c m => have r := rg c m; ⟨ab hu r.1, ab hu r.2.2.1⟩
theorem LDiff.refl_nil {A : List Ln} {cs : List dA} (h : LDiff A A cs) : cs = [] := by
  have al := h.al
  have p := LDiff.pre (p := A) (A := []) (B := []) (cs := cs) (by rw [ar]; exact h)
  have key : ∀ {X Y : List Ln}, X.length = A.length → Y.length = A.length → Al true X Y 0 0 cs → cs = [] := fun hx hy al => by
    cases al with
    | nil => rfl
    | cons g da dc _ ne k =>
      have q := p _ (.head _)
      rw [ac, ac] at hx hy
      rw [aS] at q
      dsimp only at q
      exact (ne.elim (fun h => h (ey.mp (by exact bE (aH (.e (.a .A (.a .B .C)) .D (.l .D .A (.p .B .O))) rf [_,_,_,_] [] hx q.1) (aH (.p .O .A) rf [_] [])))) fun h => h (ey.mp (by exact bE (aH (.e (.a .A (.a .B .C)) .D (.l .D .A (.p .B .O))) rf [_,_,_,_] [] hy q.1) (aH (.p .O .A) rf [_] [])))).elim
  exact key rfl rfl al
theorem Dfs.ne {α : Type} {A B : List α} {cs : List dA} {i j : Nat} (h : Dfs A B cs i j) : ∀ c ∈ cs, c.a0 < c.a1 ∨ c.b0 < c.b1 := by
  induction h with
  | nil => exact fun c m => absurd m bJ
  | step _ _ _ ih => exact ih
  | chg _ _ _ _ n _ _ ih => exact fc ih n
theorem nW {k g d e : Nat} (hg : k ≤ g) (he : 0 < e) (h : g + e + d ≤ k + 1) : g = k ∧ e = 1 ∧ d = 0 := by exact ⟨bE (aH (.l (.a (.a .A .B) .C) (.a .D .I) (.t .O .B (.p .A .D))) rf [_,_,_,_] [] h he) (aH (.l .A .B (.p .A .B)) rf [_,_] [] hg), ⟨bE (aH (.l (.a (.a .A .B) .C) (.a .D .I) (.l .D .A (.p .B .I))) rf [_,_,_,_] [] h hg) (aH (.t .O .A (.p .I .A)) rf [_] [] he), bE (aH (.l (.a (.a .A .B) .C) (.a .D .I) (.l .D .A (.t .O .B (.p .C .O)))) rf [_,_,_,_] [] h hg he) (aH (.p .O .A) rf [_] [])⟩⟩
theorem sJ {p S : List Ln} {x y : Ln} (hxy : x ≠ y) {cs : List dA} (h : LDiff (p ++ y :: S) (p ++ x :: S) cs) : cs = [⟨p.length, p.length + 1, p.length, p.length + 1⟩] := by
  have hp := LDiff.pre h
  have hn := h.dfs.ne
  have hne : cs ≠ [] := fun e => by subst e; exact hxy (eY.inj (List.append_cancel_left h.same)).1.symm
  have la : ∀ {z : Ln}, (p ++ z :: S).length = p.length + 1 + S.length := fun {z} => by rw [ac, ao, aZ, bq 1]
  obtain ⟨u, v, huv, _, _, mx', rg⟩ := h.reg
  have al := h.al
  clear h
  rw [la, la] at mx' rg
  rw [la] at huv
  have hv : ∀ c, c ≤ S.length → u + c ≤ p.length + 1 + S.length → c ≤ v := fun c hc hc' => mx' c hc' hc' fun i hi => by
    have e : p.length + 1 + S.length - 1 - i = p.length + ((S.length - 1 - i) + 1) := by clear mx' rg al hp hn; exact aH (.e (.a .A .I) (.a (.a .B .I) .C) (.i .C (.a .D .I) (.e (.a .F .G) .A (.i .D (.a .H .G) (.o .F (.a .B (.a .H .I))))))) rf [_,_,_,_,_,_,_] [] (aJ (aH (.p .I (.a (.a .A .I) .B)) rf [_,_] [])) (aJ (aH (.t .A .B (.l .B .C (.p .I .C))) rf [_,_,_] [] hi hc)) (aJ (aH (.t .A .B (.l .B .C (.i (.a (.a .D .I) .C) (.a .F .I) (.p .A .F)))) rf [_,_,_,_,_] [] hi hc (aJ (aH (.p .I (.a (.a .A .I) .B)) rf [_,_] [])))) (aJ (aH (.t .A .B (.l .B .C (.i .C (.a .D .I) (.p .A .D)))) rf [_,_,_,_] [] hi hc (aJ (aH (.t .A .B (.l .B .C (.p .I .C))) rf [_,_,_] [] hi hc))))
    have g : ∀ z : Ln, (p ++ z :: S)[p.length + ((S.length - 1 - i) + 1)]? = S[S.length - 1 - i]? := fun z => by
      rw [bp (ai _ _), cQ]; rfl
    rw [e, g, g]
  have key : ∀ c ∈ cs, c.a1 ≤ p.length + 1 ∧ c.b1 ≤ p.length + 1 := fun c m => by
    have r := rg c m
    by_cases hu : u ≤ p.length + 1
    · have := hv S.length (au _) (aC hu _)
      exact ⟨jQ (ab (br this _) r.2.1), jQ (ab (br this _) r.2.2.2)⟩
    · have e := ew (ab (ai u v) huv)
      have := hv _ (Nat.sub_le_of_le_add (by rw [bq]; exact br (Nat.le_of_not_le hu) _)) (aW e)
      have f : ∀ {a}, a + v ≤ p.length + 1 + S.length → a ≤ u := fun h => jQ (ab (br this _) (ab h (aW e.symm)))
      exact ((hn c m).elim (a7.mpr (ab (f r.2.1) r.1)) (a7.mpr (ab (f r.2.2.2) r.2.2.1))).elim
  clear rg hv mx' huv
  have fin : ∀ {X Y : List Ln}, X.length = p.length + 1 + S.length → Y.length = p.length + 1 + S.length → Al true X Y 0 0 cs → cs = [⟨p.length, p.length + 1, p.length, p.length + 1⟩] := fun hx hy al => by
    cases al with
    | nil => exact absurd rfl hne
    | cons g da dc _ ne k =>
      have q := (hp _ (.head _)).1
      have kc := key _ (.head _)
      rw [aS] at q kc k ⊢
      cases k with
      | nil =>
        have e := hx.trans hy.symm
        rw [ac, ac, ac, ac] at e
        have e := Nat.add_right_cancel (Nat.add_left_cancel e)
        have n1 : 0 < da.length := ne.elim bP.mpr fun h => e ▸ bP.mpr h
        have ⟨e1, e2, _⟩ := nW (k := p.length) (g := g.length) (d := 0) q n1 kc.1
        rw [← e, e1, e2]
      | cons g' da' dc' hg ne' k =>
        have q' := key _ (.tail _ (.head _))
        have n2 := bP.mpr (hg rfl)
        have ⟨_, _, z1⟩ := nW (ab q (ai _ _)) n2 q'.1
        have ⟨_, _, z2⟩ := nW (ab q (ai _ _)) n2 q'.2
        exact (ne'.elim (fun h => h (ey.mp z1)) fun h => h (ey.mp z2)).elim
  exact fin la la al
theorem jt {e : Nat} : ∀ c, ([] : List dA).head? = some c → e < c.a0 := nofun
theorem Fx.zero {r1 r2 t1 t2 u1 u2 : List dA} {e e' : Nat} (h1 : ∀ c, r1.head? = .some c → e < c.a0) (h2 : ∀ c, r2.head? = .some c → e < c.a0) (h : Fx r1 r2 e t1 t2 u1 u2 e') : t1 = [] ∧ t2 = [] ∧ u1 = r1 ∧ u2 = r2 ∧ e' = e := by
  induction h using Fx.casesOn with
  | stop a b =>
    obtain ⟨rfl, rfl, rfl⟩ := a.none h1
    obtain ⟨rfl, rfl, _⟩ := b.none h2
    exact ⟨rfl, rfl, rfl, rfl, rfl⟩
  | go a b ne i =>
    obtain ⟨rfl, rfl, rfl⟩ := a.none h1
    obtain ⟨rfl, rfl, rfl⟩ := b.none h2
    exact absurd rfl ne
theorem Tk.one {c : dA} {r t u : List dA} {e : Nat} (h0 : c.a0 ≤ c.a1) (hr : ∀ d, r.head? = .some d → c.a1 < d.a0) (h : Tk (c :: r) c.a0 t u e) : t = [c] ∧ u = r ∧ e = c.a1 := by
  cases h with
  | stop h => exact absurd (h c rfl) (bA _)
  | go _ i =>
    rw [Nat.max_eq_right h0] at i
    obtain ⟨rfl, rfl, rfl⟩ := i.none hr
    exact ⟨rfl, rfl, rfl⟩
theorem Fx.other {c : dA} {r t1 t2 u1 u2 : List dA} {e : Nat} (h0 : c.a0 ≤ c.a1) (hr : ∀ d, r.head? = .some d → c.a1 < d.a0) (h : Fx [] (c :: r) c.a0 t1 t2 u1 u2 e) : t1 = [] ∧ t2 = [c] ∧ u1 = [] ∧ u2 = r ∧ e = c.a1 := by
  generalize hx : c.a0 = x at h
  cases h with
  | stop a b =>
    obtain ⟨rfl, rfl, rfl⟩ := a.none jt
    subst hx
    have ⟨z1, z2, z3⟩ := b.one h0 hr
    exact ⟨rfl, z1, rfl, z2, z3⟩
  | go a b ne i =>
    obtain ⟨rfl, rfl, rfl⟩ := a.none jt
    subst hx
    obtain ⟨rfl, rfl, rfl⟩ := b.one h0 hr
    obtain ⟨rfl, rfl, rfl, rfl, rfl⟩ := i.zero jt hr
    exact ⟨rfl, rfl, rfl, rfl, rfl⟩
theorem sq {α : Type} {l P g R : List α} {i j : Int} (h : l = P ++ (g ++ R)) (hi : i = P.length) (hj : j = (P.length + g.length : Nat)) : a9 l (some i) (some j) = g := by
  subst h hi hj
  rw [← ag]
  exact pW P g R
theorem sC {base l1 l2 P g R : List Ln} {s2 : Int} {a b : Nat} (h : l1 = P ++ (g ++ R)) (ha : a = P.length) (hb : b = P.length + g.length) : kM (iX base l1 l2 0 s2 a b) = 0 ∧ (iX base l1 l2 0 s2 a b).flatMap pY = g := by
  unfold iX
  split
  · refine ⟨rfl, ?_⟩
    rw [aF, ct, ar]
    show a9 l1 (some ((a : Int) + 0)) (some ((b : Int) + 0)) = g
    rw [ca, ca]
    exact sq h (by rw [ha]) (by rw [hb])
  · have : g = [] := ey.mp (by exact bE (aH (.i (.a .A .B) .C (.l .C .D (.e .D .A (.p .B .O)))) rf [_,_,_,_] [] hb (bz (by assumption)) ha) (aH (.p .O .A) rf [_] []))
    rw [this]; exact ⟨rfl, rfl⟩
theorem tm {base l1 l2 : List Ln} {f : Bool} {S T : List Ln} {i j : Nat} {cs : List dA} (al : Al f S T i j cs) : ∀ {PA PB PC : List Ln} {s2 : Int} {L : List fk}, base = PA ++ S → l1 = PB ++ S → l2 = PC ++ T → i = PA.length → i = PB.length → j = PC.length → (j : Int) = i + s2 → Chs base l1 l2 [] cs 0 s2 i L → kM L = 0 ∧ L.flatMap pY = T := by
  induction al with
  | nil =>
    intro PA PB PC s2 L ea eb ec ia ib jc js h
    cases h with
    | nil => exact sC (R := []) (by rw [ar]; exact eb) ib (by rw [ea, ac, ← ia, ib])
    | cons lo => cases lo
  | @cons f i j r A C g da dc hf ne k ih =>
    intro PA PB PC s2 L ea eb ec ia ib jc js h
    cases h with
    | cons lo F k2 =>
      cases lo
      have hgap : ∀ d, r.head? = .some d → i + g.length + da.length < d.a0 := fun d hd => by
        cases k with
        | nil => cases hd
        | cons g' _ _ hg => cases hd; exact co (bP.mpr (hg rfl))
      obtain ⟨rfl, rfl, rfl, rfl, rfl⟩ := F.other (ai _ _) hgap
      have sh : uZ [(⟨i + g.length, i + g.length + da.length, j + g.length, j + g.length + dc.length⟩ : dA)] s2 = ((j + g.length + dc.length : Nat) : Int) - (i + g.length + da.length : Nat) := rfl
      have i2 := ih (PA := PA ++ (g ++ da)) (PB := PB ++ (g ++ da)) (PC := PC ++ (g ++ dc)) (by rw [ea, ag, ag]) (by rw [eb, ag, ag]) (by rw [ec, ag, ag]) (by rw [ac, ac, ia, aZ]) (by rw [ac, ac, ib, aZ]) (by rw [ac, ac, jc, aZ]) (by rw [sh]; exact aH (.O (.c (.a (.a .A .B) .C)) (.a (.c (.a (.a .D .B) .F)) (.s (.c (.a (.a .A .B) .C)) (.c (.a (.a .D .B) .F))))) rf [_,_,_,_,_] []) k2
      have s := sC (base := base) (l2 := l2) (s2 := s2) (a := i) (b := i + g.length) eb ib (by rw [ib])
      rw [ky, s.1, ei, i2.1, fR, s.2, aF, i2.2]
      refine ⟨rfl, congrArg (g ++ ·) (congrArg (· ++ C) ?_)⟩
      show a9 l2 (some (((i + g.length : Nat) : Int) + s2)) (some (((i + g.length + da.length : Nat) : Int) + uZ [⟨i + g.length, i + g.length + da.length, j + g.length, j + g.length + dc.length⟩] s2)) = dc
      rw [sh]
      exact sq (P := PC ++ g) (g := dc) (R := C) (by rw [ec, ag]) (by rw [ac, ← jc]; exact aH (.w (.a (.c .A) .A) (.c .B) (.O (.a (.c (.a .A .C)) .A) (.c (.a .B .C)))) rf [_,_,_] [_] js) (by rw [ac, ← jc]; exact aH (.O (.a (.c (.a (.a .A .B) .C)) (.s (.c (.a (.a .D .B) .F)) (.c (.a (.a .A .B) .C)))) (.c (.a (.a .D .B) .F))) rf [_,_,_,_,_] [])
theorem wx {A C : List Ln} : Mrg A A C (some C.flatten) := fun c1 h1 c2 h2 L h => by
  cases h1.refl_nil
  have t := tm (PA := []) (PB := []) (PC := []) h2.al rfl rfl rfl rfl rfl rfl rfl h
  exact ⟨by rw [t.1]; exact aY _, t.1, by rw [t.2]⟩
noncomputable abbrev c0 (k : Nat) : dA := ⟨k, k + 1, k, k + 1⟩
theorem yQ {k : Nat} {c2 : List dA} (h : ∀ c, c2.head? = .some c → k < c.a0) : zN [c0 k] c2 = some k := by
  induction c2 using List.casesOn with
  | nil => rfl
  | cons c r => exact congrArg some (dt (gU (h c rfl)))
theorem xF {k : Nat} {s : Int} : uZ [c0 k] s = 0 := Int.sub_self _
theorem Fx.mine {k : Nat} {r2 t1 t2 u1 u2 : List dA} {e : Nat} (h2 : ∀ c, r2.head? = .some c → k + 1 < c.a0) (h : Fx [c0 k] r2 k t1 t2 u1 u2 e) : t1 = [c0 k] ∧ t2 = [] ∧ u1 = [] ∧ u2 = r2 ∧ e = k + 1 := by
  cases h with
  | stop a b =>
    obtain ⟨_, _, rfl⟩ := Tk.one (c := c0 k) (bO k) jt a
    exact absurd b.le (oJ k)
  | go a b ne i =>
    obtain ⟨rfl, rfl, rfl⟩ := Tk.one (c := c0 k) (bO k) jt a
    obtain ⟨rfl, rfl, rfl⟩ := b.none h2
    obtain ⟨rfl, rfl, rfl, rfl, rfl⟩ := i.zero jt h2
    exact ⟨rfl, rfl, rfl, rfl, rfl⟩
theorem Fx.le {r1 r2 t1 t2 u1 u2 : List dA} {e e' : Nat} (h : Fx r1 r2 e t1 t2 u1 u2 e') : e ≤ e' := by
  induction h with
  | stop a b => exact ab a.le b.le
  | go a b _ _ ih => exact ab (ab a.le b.le) ih
theorem Fx.near {k : Nat} {c : dA} {r t1 t2 u1 u2 : List dA} {e : Nat} (hc : c.a0 = k + 1) (h : Fx [c0 k] (c :: r) k t1 t2 u1 u2 e) : t1 = [c0 k] ∧ t2 ≠ [] ∧ k < e := by
  cases h with
  | stop a b =>
    obtain ⟨_, _, rfl⟩ := Tk.one (c := c0 k) (bO k) jt a
    exact absurd b.le (oJ k)
  | go a b ne i =>
    obtain ⟨rfl, rfl, rfl⟩ := Tk.one (c := c0 k) (bO k) jt a
    have ta := (xt.mp i.app.1.symm).1
    subst ta
    exact ⟨rfl, fun h => b.some (aW hc) (xt.mp h).1, ab b.le i.le⟩
theorem slice_z {p R : List Ln} {z : Ln} {hi : Nat} (h : p.length < hi) : ∃ R', a9 (p ++ z :: R) (some (p.length : Int)) (some (hi : Int)) = z :: R' := by
  unfold a9
  have e : min p.length (p ++ z :: R).length = p.length := dt (by rw [ac]; exact ai _ _)
  rw [lW, qp, e, nQ]
  obtain ⟨n, e⟩ : ∃ n, min hi (p ++ z :: R).length - p.length = n + 1 := ⟨min hi (p ++ z :: R).length - p.length - 1, (aJ (Nat.sub_pos_of_lt (Nat.lt_min.mpr ⟨h, by rw [ac, ao]; exact aH (.q .A (.a .A (.a .B .I))) rf [_,_] []⟩))).symm⟩
  rw [e]; exact ⟨_, rfl⟩
theorem slice_h {p R : List Ln} {z w : Ln} {hi : Int} {T : List Ln} (h : a9 (p ++ z :: R) (some (p.length : Int)) (some hi) = w :: T) : w = z := by
  unfold a9 at h
  rw [lW, dt (by rw [ac]; exact ai _ _), nQ] at h
  generalize kms_hi (some hi) _ - p.length = n at h
  induction n using Nat.casesOn with
  | zero => cases h
  | succ n => cases h; rfl
theorem yO {p S T : List Ln} {x y q : Ln} (hxy : x ≠ y) : Mrg (p ++ y :: q :: S) (p ++ x :: q :: S) (p ++ y :: q :: T) (some (p ++ x :: q :: T).flatten) := fun c1 h1 c2 h2 L h => by
  cases sJ hxy h1
  have e1 : ∀ {z : Ln} {X : List Ln}, p ++ z :: X = (p ++ [z]) ++ X := fun {z X} => by rw [ag]; rfl
  have l1 : ∀ {z : Ln}, (p ++ [z]).length = p.length + 1 := ac
  have hh : ∀ c, c2.head? = .some c → p.length + 1 < c.a0 := fun c hc => by
    have h2' : LDiff ((p ++ [y, q]) ++ S) ((p ++ [y, q]) ++ T) c2 := by rw [ag, ag]; exact h2
    have := (LDiff.pre h2' c (List.mem_of_head? hc)).1
    rw [ac] at this
    exact this
  have al := h2.al
  rw [e1 (X := q :: S), e1 (X := q :: T)] at al
  have al := al.skip fun c hc => by rw [aS, l1 (z := y)]; exact gU (hh c hc)
  rw [aS, l1] at al
  cases h with
  | cons lo F k2 =>
    rw [yQ fun c hc => rG (hh c hc)] at lo
    cases lo
    obtain ⟨rfl, rfl, rfl, rfl, rfl⟩ := F.mine hh
    rw [xF] at k2
    have t := tm (PA := p ++ [y]) (PB := p ++ [x]) (PC := p ++ [y]) al e1 e1 e1 l1.symm l1.symm l1.symm (ca _).symm k2
    have s := sC (base := p ++ y :: q :: S) (l2 := p ++ y :: q :: T) (l1 := p ++ x :: q :: S) (P := []) (g := p) (R := x :: q :: S) (s2 := 0) (a := 0) (b := p.length) rfl rfl (aS _).symm
    have w : ∀ L', kM L' = 0 → kM (iX (p ++ y :: q :: S) (p ++ x :: q :: S) (p ++ y :: q :: T) 0 0 0 p.length ++ ccK (p ++ y :: q :: S) (p ++ x :: q :: S) (p ++ y :: q :: T) 0 0 p.length [c0 p.length] [] (p.length + 1) :: L') = 0 := fun L' h => by
      rw [ky, s.1, ei, h]; rfl
    refine ⟨by rw [w _ t.1]; exact aY _, w _ t.1, congrArg List.flatten ?_⟩
    rw [fR, s.2, aF, t.2]
    refine congrArg (p ++ ·) (congrArg (fun X : List Ln => X ++ q :: T) (a₂ := [x]) ?_)
    show a9 (p ++ x :: q :: S) (some ((p.length : Int) + 0)) (some (((p.length + 1 : Nat) : Int) + uZ [c0 p.length] 0)) = [x]
    rw [xF, ca, ca]
    exact sq (P := p) (g := [x]) (R := q :: S) rfl rfl rfl
theorem AT {p S T : List Ln} {x y mk : Ln} (hxy : x ≠ y) (hm : mk ∉ T) (la : LsOk (p ++ y :: mk :: S)) (lb : LsOk (p ++ x :: mk :: S)) (lc : LsOk (p ++ y :: T)) : Mrg (p ++ y :: mk :: S) (p ++ x :: mk :: S) (p ++ y :: T) none := fun c1 h1 c2 h2 L h => by
  cases sJ hxy h1
  refine ⟨(h.ok la lb lc).2, ?_⟩
  have e1 : ∀ {z : Ln} {X : List Ln}, p ++ z :: X = (p ++ [z]) ++ X := fun {z X} => by rw [ag]; rfl
  have l1 : ∀ {z : Ln}, (p ++ [z]).length = p.length + 1 := ac
  have hh : ∀ c, c2.head? = .some c → p.length + 1 ≤ c.a0 := fun c hc => by
    have h2' : LDiff ((p ++ [y]) ++ mk :: S) ((p ++ [y]) ++ T) c2 := by rw [ag, ag]; exact h2
    have := (LDiff.pre h2' c (List.mem_of_head? hc)).1
    rw [l1] at this
    exact this
  have al := h2.al
  rw [e1 (X := mk :: S), e1 (X := T)] at al
  have al := al.skip fun c hc => by rw [aS, l1 (z := y)]; exact hh c hc
  rw [aS, l1] at al
  obtain ⟨c, r, rfl, hc⟩ : ∃ c r, c2 = c :: r ∧ c.a0 = p.length + 1 := by
    generalize hX : mk :: S = X at al
    cases al with
    | nil => subst hX; exact absurd (.head _) hm
    | cons g da dc _ _ _ =>
      induction g using List.casesOn with
      | nil => exact ⟨_, _, rfl, rfl⟩
      | cons z g => cases hX; exact absurd (.head _) hm
  cases h with
  | cons lo F k2 =>
    rw [yQ fun c hc => hh c hc] at lo
    cases lo
    obtain ⟨rfl, t2, ke⟩ := F.near hc
    rw [ky, ei]
    have w : ∀ {t2 : List dA} {e : Nat}, t2 ≠ [] → p.length < e → (ccK (p ++ y :: mk :: S) (p ++ x :: mk :: S) (p ++ y :: T) 0 0 p.length [c0 p.length] t2 e).u = "conflict" := fun {t2 e} n2 ke => by
      show lD _ (decide _) (a9 (p ++ x :: mk :: S) (some ((p.length : Int) + 0)) (some (_ + uZ [c0 p.length] 0))) (a9 (p ++ y :: T) (some ((p.length : Int) + 0)) _) = _
      rw [xF, ca, ca, decide_eq_true n2]
      obtain ⟨R', eR⟩ := slice_z (p := p) (R := mk :: S) (z := x) ke
      rw [eR]
      unfold lD
      rw [if_neg nofun, if_neg nofun, if_neg fun h => hxy (slice_h h.symm)]
    rw [if_pos (w t2 ke)]
    exact Nat.ne_of_gt (aH (.q .O (.a .A (.a .I .B))) rf [_,_] [])
section
variable {m : Nat} {L : List Ln} {es : List Ent}
theorem uB {c : UInt8} (h : c ≠ 10 ∧ c ≠ 13) : Gd [c, 10] := ⟨[c], rfl, dD h, by show 1 ≤ 15; decide⟩
theorem wA {c : UInt8} (h : uY c = none) : bD [c, 10] m = none := by
  unfold bD; dsimp only; rw [h]; rfl
theorem mf {P : Ln → Prop} {u v : Ln} {X : List Ln} (hu : P u) (hv : P v) (h : ∀ x ∈ X, P x) : ∀ x ∈ u :: v :: X, P x := fun x k => by
  cases k with
  | head => exact hu
  | tail _ k => cases k with
    | head => exact hv
    | tail _ k => exact h x k
theorem Doc.pre {u v : Ln} (D : Doc m L es) (hl : L.length ≤ 48) (gu : Gd u) (gv : Gd v) (nu : bD u m = none) (nv : bD v m = none) : Doc m (u :: v :: L) (.ln u :: .ln v :: es) :=
  ⟨mf gu gv D.gd, aj (aj hl), .ln (fun h => nomatch nu.symm.trans h) (.ln (fun h => nomatch nv.symm.trans h) D.evs)⟩
theorem Bh {X Y : List Ln} (hx : ∀ l ∈ X, Gd l) (hy : ∀ l ∈ Y, Gd l) (h : X.flatten = Y.flatten) : X = Y := by rw [← cR hx, h, cR hy]
theorem zH {b o t : List Ln} {ws : List String} (hm : m ≤ 10) (hb : ∀ x ∈ b, Gd x) (ho : ∀ x ∈ o, Gd x) (ht : ∀ x ∈ t, Gd x) : (∀ x ∈ jV m b o t ws, Gd x) ∧ 3 * (jV m b o t ws).length ≤ 4 * (b.length + o.length + t.length + 3) := by
  induction ws using List.casesOn with
  | nil =>
    refine ⟨qv hm ho hb ht, ?_⟩
    show 3 * (de m o b t).length ≤ _
    unfold de
    split
    · simp only [ac, ao, bK]; exact aH (.p (.m 3 (.a (.a (.a (.a (.a (.a .O .I) .A) .O) (.a .O .I)) .B) (.a .O .I))) (.m 4 (.a (.a (.a .C .A) .B) (.n 3)))) rf [_,_,_] []
    · simp only [ac, ao, bK]; exact aH (.p (.m 3 (.a (.a (.a (.a (.a (.a .O .I) .A) (.a .B .I)) (.a .O .I)) .C) (.a .O .I))) (.m 4 (.a (.a (.a .B .A) .C) (.n 3)))) rf [_,_,_] []
  | cons w ws =>
    show (∀ x ∈ nt w b o t, Gd x) ∧ 3 * (nt w b o t).length ≤ _
    unfold nt
    split
    · exact ⟨hb, by exact aH (.p (.m 3 .A) (.m 4 (.a (.a (.a .A .B) .C) (.n 3)))) rf [_,_,_] []⟩
    split
    · exact ⟨ht, by exact aH (.p (.m 3 .A) (.m 4 (.a (.a (.a .B .C) .A) (.n 3)))) rf [_,_,_] []⟩
    split
    · exact ⟨dr ho ht, by rw [ac]; exact aH (.p (.m 3 (.a .A .B)) (.m 4 (.a (.a (.a .C .A) .B) (.n 3)))) rf [_,_,_] []⟩
    · exact ⟨ho, by exact aH (.p (.m 3 .A) (.m 4 (.a (.a (.a .B .A) .C) (.n 3)))) rf [_,_,_] []⟩
theorem oX (hm : m ≤ 10) : ∀ (es : List Ent) (ws : List String), EsGd es → (∀ x ∈ fT m es ws, Gd x) ∧ 3 * (fT m es ws).length ≤ 4 * xZ es
  | [], _, _ => ⟨nofun, au _⟩
  | .ln l :: es, ws, g => by
    have ih := oX hm es ws g.tail
    refine ⟨fun x k => by cases k with | head => exact g.ln _ (.head _) | tail _ k => exact ih.1 x k, ?_⟩
    show 3 * ((fT m es ws).length + 1) ≤ 4 * (xZ es + 1)
    exact aH (.l (.m 3 .A) (.m 4 .B) (.p (.m 3 (.a .A .I)) (.m 4 (.a .B .I)))) rf [_,_] [] ih.2
  | .cf b o t :: es, ws, g => by
    have ih := oX hm es ws.tail g.tail
    have ⟨x, y, z⟩ := g.cf b o t (.head _)
    have p := zH (ws := ws) hm x y z
    refine ⟨dr p.1 ih.1, ?_⟩
    show 3 * (_ ++ fT m es ws.tail).length ≤ 4 * (_ + 3 + xZ es)
    rw [ac]
    exact aH (.l (.m 3 .A) (.m 4 .B) (.l (.m 3 .C) (.m 4 (.a (.a (.a .D .F) .G) (.n 3))) (.p (.m 3 (.a .C .A)) (.m 4 (.a (.a (.a (.a .D .F) .G) (.n 3)) .B))))) rf [_,_,_,_,_,_] [] ih.2 p.2
theorem sG {nl L1 SL : List Ln} {e1 e2 : List Ent} {X : Option Ln} {r : D} (h1 : 1 ≤ m) (hm : m ≤ 10) (DN : Doc m nl e2) (D1 : Doc m L1 e1) (hS : e1.flatMap gN = e2.flatMap gN) (gS : ∀ x ∈ SL, Gd x) (lS : SL.length ≤ 60) (M : Mrg nl (e1.flatMap (rE m sp)) SL X) (a : ∀ x, X = some x → x.length ≤ 4000 ∧ r = if p7 x m = true then .bytes x else .none) (b : X = none → r = .none) : RepR m e1 e2 nl.flatten SL.flatten r := by
  have R := D1.re pZ h1 hm
  have e := rU (m := m) D1.ps.gd
  refine .mrg (congrArg _ hS) (nX DN.gd (ab DN.n (by decide))) (by rw [e]; exact nX R.gd (ab R.n (by decide))) (nX gS lS) ?_ a b
  rw [e, cR DN.gd, cR R.gd, cR gS]
  exact M
theorem p6 {X : List Ln} (h : ∀ x ∈ X, Gd x) : p7 X.flatten m = true ↔ ∀ x ∈ X, bD x m = none := by
  unfold p7
  rw [cR h, decide_eq_true_iff, xq]
  exact ⟨fun h x k => rF.mp (h x k), fun h x k => rF.mpr (h x k)⟩
end
theorem cf_mem {es : List Ent} (h : es.flatMap gN ≠ []) : ∃ b o t, Ent.cf b o t ∈ es := by
  obtain ⟨x, hx⟩ := vX _ h
  obtain ⟨e, he, hx⟩ := r9.mp hx
  induction e using Ent.casesOn with
  | ln => cases hx
  | cf b o t => exact ⟨b, o, t, he⟩
theorem rep_ok {m : Nat} {ls : List Ln} {es : List Ent} {ws : List String} (h1 : 1 ≤ m) (hm : m ≤ 10) (Y : Doc m ls es) (hl : ls.length ≤ 42) (ne : es.flatMap gN ≠ []) (hres : p7 (fT m es ws).flatten m = true) : ∃ nrm e2, Rr m ls.flatten es ws nrm e2 := by
  have gp : Gd [112, 10] := uB (by decide)
  have gq : Gd [113, 10] := uB (by decide)
  have gx : Gd [120, 10] := uB (by decide)
  have np : bD [112, 10] m = none := wA rfl
  have nq : bD [113, 10] m = none := wA rfl
  have nx : bD [120, 10] m = none := wA rfl
  have hl' : ls.length ≤ 48 := ab hl (by decide)
  have DE := Y.pre hl' gp gq np nq
  have DN := DE.re pZ h1 hm
  have lg := oX hm es ws Y.ps.gd
  have l56 : (fT m es ws).length ≤ 56 := by have := Y.evs.len; exact bz fun h3' => aH (.t (.n 56) .A (.l (.m 3 .A) (.m 4 .B) (.l (.m 4 .B) (.m 4 .C) (.l (.m 4 .C) (.m 4 (.n 42)) (.t (.n 56) .A (.t (.n 56) .A .f)))))) rf [_,_,_] [] h3' lg.2 (a5 4 this) (a5 4 hl) h3' h3'
  have mk := (p6 lg.1).mp hres
  have sw : thE m = rE m fun o t => (t, o) := by funext e; induction e using Ent.casesOn <;> rfl
  have gR := yL pZ hm Y.ps.gd
  have lR : (es.flatMap (rE m sp)).length ≤ 42 := ab (ve pZ) (ab Y.evs.len hl)
  have nS2 : ((Ent.ln [112, 10] :: .ln [113, 10] :: es).map (mE sp)).flatMap gN = es.flatMap gN := yN pZ DE.ps.gd
  have l60 : ∀ {u v : Ln} {X : List Ln}, X.length ≤ 56 → (u :: v :: X).length ≤ 60 := fun h => aj (aj (ab h (by decide)))
  have ans : ∀ {u v x : Ln}, Gd u → Gd v → bD u m = none → bD v m = none → some (u :: v :: fT m es ws).flatten = some x → x.length ≤ 4000 ∧ D.bytes (u ++ (v ++ (fT m es ws).flatten)) = if p7 x m = true then .bytes x else .none := fun {u v x} gu gv nu nv e => by
    cases e
    have g := mf gu gv lg.1
    rw [(p6 g).mpr (mf nu nv mk), if_pos rfl]
    exact ⟨ab (gQ g) (ab (aT 16 (l60 l56)) (by decide)), rfl⟩
  have gSL := mf gp gq lg.1
  refine ⟨([112, 10] :: [113, 10] :: es.flatMap (rE m sp)).flatten, (Ent.ln [112, 10] :: .ln [113, 10] :: es).map (mE sp), ?_⟩
  refine { p0 := DE.pg ne, nr := (rU DE.ps.gd).symm, pn := DN.pg (by rw [nS2]; exact ne), sz := ab (gQ lg.1) (ab (aT 16 l56) (by decide)), ne := fun e => by subst e; exact ne rfl, pt := ?_, px := ?_, pq := ?_, pr := ?_, po := ?_ }
  · have DT := DE.re u6 h1 hm
    have nT := yN u6 DE.ps.gd
    have pg := DT.pg (by rw [nT]; exact ne)
    rw [sw]
    refine ⟨_, pg, sG h1 hm DN DT (nT.trans nS2.symm) gSL (l60 l56) (X := some _) ?_ (fun x e => ans gp gq np nq e) nofun⟩
    have DTN := DT.re pZ h1 hm
    have e := Bh DTN.gd DN.gd (((rU DT.ps.gd).symm.trans (nF_mE u6 DE.ps.gd)).trans (rU DE.ps.gd))
    rw [e]
    exact wx
  · have DX := Y.pre hl' gx gq nx nq
    exact ⟨_, DX.pg ne, sG h1 hm DN DX nS2.symm gSL (l60 l56) (yO (p := []) (q := [113, 10]) (S := es.flatMap (rE m sp)) (T := fT m es ws) (by decide)) (fun x e => ans gx gq nx nq e) nofun⟩
  · have DX := Y.pre hl' gp gx np nx
    refine ⟨_, DX.pg ne, ?_⟩
    induction es using List.casesOn with
    | nil => exact absurd rfl ne
    | cons e es =>
      induction e using Ent.casesOn with
      | ln l => exact sG h1 hm DN DX nS2.symm gSL (l60 l56) (yO (p := [[112, 10]]) (q := l) (S := es.flatMap (rE m sp)) (T := fT m es ws) (by decide)) (fun x e => ans gp gx np nx e) nofun
      | cf b o t =>
        refine sG h1 hm DN DX nS2.symm gSL (l60 l56) (X := none) ?_ nofun (fun _ => rfl)
        have g1 := mf gp gq gR
        have g2 := mf gp gx gR
        show Mrg ([112, 10] :: [113, 10] :: (Ent.cf b o t :: es).flatMap (rE m sp)) ([112, 10] :: [120, 10] :: (Ent.cf b o t :: es).flatMap (rE m sp)) _ _
        have k1 := LsOk.good g1 (l60 (ab lR (by decide)))
        have k2 := LsOk.good g2 (l60 (ab lR (by decide)))
        rw [AJ] at k1 k2 ⊢
        exact AT (p := [[112, 10]]) (T := fT m (.cf b o t :: es) ws) (by decide) (fun h => nomatch (mk _ h).symm.trans (g7 (by decide) h1)) k1 k2 (.good gSL (l60 l56))
  · refine sG h1 hm DN DE nS2.symm DN.gd (ab DN.n (by decide)) wx (fun x e => ?_) nofun
    cases e
    refine ⟨ab (gQ DN.gd) (ab (aT 16 DN.n) (by decide)), (if_neg fun h => ?_).symm⟩
    have h := (p6 DN.gd).mp h
    obtain ⟨b, o, t, k⟩ := cf_mem ne
    have hm : cw 0 m [] ∈ es.flatMap (rE m sp) := r9.mpr ⟨_, k, by
      have e := mr (m := m) (s := []) (o := (sp o t).1) (t := (sp o t).2)
      rw [ar] at e
      show _ ∈ de m (sp o t).1 [] (sp o t).2
      rw [e]; exact .head _⟩
    exact nomatch (h _ (.tail _ (.tail _ hm))).symm.trans (g7 (by decide) h1)
  · have gB : ∀ x ∈ de m [[107, 10]] [] [[108, 10]], Gd x := qv hm (dD (uB (by decide))) nofun (dD (uB (by decide)))
    have n1 : ∀ l ∈ ([[107, 10]] : List Ln), bD l m = none := dD (wA rfl)
    have n2 : ∀ l ∈ ([[108, 10]] : List Ln), bD l m = none := dD (wA rfl)
    have cB := mr (m := m) (s := []) (o := [[107, 10]]) (t := [[108, 10]])
    rw [ar] at cB
    have EB : Evs m (de m [[107, 10]] [] [[108, 10]]) [.cf [] [[107, 10]] [[108, 10]]] := by rw [cB]; exact .cf (g7 (by decide) h1) (za h1 n1 n2) .nil
    have SB : Starts m (de m [[107, 10]] [] [[108, 10]]) := by rw [cB]; exact .cons (g7 (by decide) h1)
    have DB : Doc m (ls ++ de m [[107, 10]] [] [[108, 10]]) (es ++ [Ent.cf [] [[107, 10]] [[108, 10]]]) := ⟨dr Y.gd gB, by rw [ac, ph]; exact ab (aC hl 5) (by decide), Y.evs.app EB SB⟩
    have DO := DB.pre (by rw [ac, ph]; exact ab (aC hl 5) (by decide)) gp gq np nq
    have e : (es ++ [Ent.cf [] [[107, 10]] [[108, 10]]]).flatMap gN = es.flatMap gN ++ nS (.conf [] [[107, 10]] [[108, 10]]) := by rw [fR, aF, ct, ar]; rfl
    have pg := DO.pg (by show (es ++ _).flatMap gN ≠ []; rw [e]; exact qC ne _)
    rw [← cx]
    refine ⟨_, pg, .ne fun h => ?_⟩
    have h : ((es ++ [Ent.cf [] [[107, 10]] [[108, 10]]]).flatMap gN).flatten = _ := h
    rw [nS2, e, cx] at h
    have := congrArg dV h
    rw [ac] at this
    have z : 0 < (nS (.conf [] [[107, 10]] [[108, 10]])).flatten.length := by
      show 0 < ([_, [0], _, [0]] : List Ln).flatten.length
      rw [b6, b6, ac, ac]
      show 0 < _ + (1 + _)
      exact aH (.q .O (.a .A (.a .I .B))) rf [_,_] []
    exact aH (.t .O .A (.e (.a .B .A) .B .f)) rf [_,_] [] z this
theorem BU {pl : List Ln} : ((c7 pl).filter o4).length = 0 := by
  unfold c7
  split <;> rfl
theorem xX : ∀ (es : List Ent) (pl : List Ln), 3 * ((gj pl es).filter o4).length ≤ xZ es
  | [], pl => by
    show 3 * ((c7 pl).filter o4).length ≤ 0
    rw [BU]; exact au _
  | .ln l :: es, pl => bg (xX es (pl ++ [l]))
  | .cf b o t :: es, pl => by
    have ih := xX es []
    show 3 * ((c7 pl ++ .conf b o t :: gj [] es).filter o4).length ≤ _ + 3 + xZ es
    rw [List.filter_append, ac, BU, aS, List.filter_cons_of_pos rfl, ao]
    exact aH (.l (.m 3 .A) .B (.p (.m 3 (.a .A .I)) (.a (.a (.a (.a .C .D) .F) (.n 3)) .B))) rf [_,_,_,_,_] [] ih
theorem page_ok {m : Nat} {ls : List Ln} (h1 : 1 ≤ m) (hm : m ≤ 10) (g : ∀ l ∈ ls, Gd l) (hl : ls.length ≤ 42) : ∃ es, LawOk m ls es := by
  obtain ⟨es, he⟩ := Evs.ex m ls.length ls (au _)
  have Y : Doc m ls es := ⟨g, ab hl (by decide), he⟩
  have hn := ab he.len hl
  refine ⟨es, g, ab hl (by decide), he, Y.ok, Y.ps.gd, fun ws => ?_, ?_, fun ws _ ne hr => rep_ok h1 hm Y hl ne hr⟩
  · have lg := oX hm es ws Y.ps.gd
    have h3 : (fT m es ws).length ≤ 56 := by have := lg.2; exact bz fun h3' => aH (.t (.n 56) .A (.l (.m 3 .A) (.m 4 .B) (.l (.m 4 .B) (.m 4 (.n 42)) (.t (.n 56) .A (.t (.n 56) .A .f))))) rf [_,_] [] h3' lg.2 (a5 4 hn) h3' h3'
    exact ab (gQ lg.1) (ab (aT 16 h3) (by decide))
  · have := xX es []
    exact bz fun h3' => aH (.t (.n 14) .A (.l (.m 3 .A) .B (.l .B (.n 42) (.t (.n 14) .A (.t (.n 14) .A .f))))) rf [_,_] [] h3' this hn h3' h3'
theorem lJ {i m : Nat} {name : Ln} (hi : i < 4) (hm : m + name.length ≤ 15) (hn : ∀ c ∈ name, c ≠ 10 ∧ c ≠ 13) : Gd (cw i m name) := by
  refine ⟨ay m (qG i) ++ name, rfl, dr (fun c hc => ?_) hn, by rw [ac, be]; exact hm⟩
  rw [fZ hc]
  exact (by decide : ∀ i, i < 4 → qG i ≠ 10 ∧ qG i ≠ 13) i hi
theorem xK {x : Int} (h0 : 0 ≤ x) (h1 : x < 4) : Gd (oneL x) := by
  obtain ⟨k, rfl⟩ := bF h0
  have h : k < 4 := bj.mp h1
  exact uB ((by decide : ∀ k : Nat, k < 4 → (97 + (k : Int)).toNat.toUInt8 ≠ 10 ∧ (97 + (k : Int)).toNat.toUInt8 ≠ 13) k h)
theorem uX {x : Int} : ∀ l ∈ jp x, Gd l := fun l h => by
  have m3 : ∀ {y : Int}, 0 ≤ y % 3 ∧ y % 3 < 4 := ⟨bV _ (by decide), yv (cM _ (by decide)) (by decide)⟩
  cases nM h with
  | head => exact xK m3.1 m3.2
  | tail _ h => cases am.mp h; exact xK m3.1 m3.2
theorem AL {y : Int} {m : Nat} (hm : m ≤ 6) : ∀ l ∈ iZ y m, Gd l := by
  unfold iZ
  have m4 : 0 ≤ (((y / 5).natAbs : Nat) : Int) % 4 ∧ (((y / 5).natAbs : Nat) : Int) % 4 < 4 := ⟨bV _ (by decide), cM _ (by decide)⟩
  have z : ∀ {k a : Nat}, a + k ≤ 9 → m + a + k ≤ 15 := fun {k a} h => by rw [aZ]; exact aA hm h
  split
  · exact dD (xK m4.1 m4.2)
  split
  · have i4 : ((((y / 5).natAbs : Nat) : Int) % 4).toNat < 4 := (rM (bV _ (by decide))).mpr (cM _ (by decide))
    refine dD ?_
    have all : ∀ l ∈ wk ((((y / 5).natAbs : Nat) : Int) % 4).toNat m, Gd l := fun l h => by
      cases h with
      | head => exact lJ i4 (z (k := 0) (by decide)) nofun
      | tail _ h => cases h with
        | head => exact lJ i4 (z (k := 2) (by decide)) (by decide)
        | tail _ h => cases h with
          | head => exact lJ i4 (z (k := 0) (by decide)) nofun
          | tail _ h => cases h with
            | head => exact lJ i4 (z (k := 0) (a := 0) (by decide)) nofun
            | tail _ h => cases h with
              | head =>
                refine ⟨60 :: (ay m (qG 0) ++ [120]), rfl, fun c k => ?_, by rw [ao, ac, be]; exact ab (aj (aj hm)) (by decide)⟩
                cases k with
                | head => decide
                | tail _ k =>
                  rcases bk.mp k with k | k
                  · rw [fZ k]; decide
                  · cases am.mp k; decide
              | tail _ h => cases am.mp h; exact ⟨[], rfl, nofun, aY _⟩
    rw [fA]
    cases e : (wk ((((y / 5).natAbs : Nat) : Int) % 4).toNat m)[((((y / 5).natAbs : Nat) : Int) / 4 % 6).toNat]? with
    | none =>
      exact absurd (fM.mp e) (gn.mpr ((rM (bV _ (by decide))).mpr (cM _ (by decide))))
    | some x => exact all x (cq e)
  · refine dr (dr (dr (dr (dr (dD (lJ (by decide) (z (k := 5) (by decide)) (by decide))) uX) ?_) (dD (lJ (by decide) (z (k := 0) (by decide)) nofun))) uX) (dD (lJ (by decide) (z (k := 6) (by decide)) (by decide)))
    split
    · exact fun x k => by cases k with | head => exact lJ (by decide) (z (k := 4) (by decide)) (by decide) | tail _ k => exact uX x k
    · exact nofun
theorem zF {y : Int} {m : Nat} : (iZ y m).length ≤ 10 := by
  unfold iZ
  have s1 := iV (x := ((y / 5).natAbs : Int))
  have s2 := iV (x := ((y / 5).natAbs : Int) / 7)
  have s3 := iV (x := ((y / 5).natAbs : Int) / 27)
  split
  · exact aP rfl
  split
  · exact aP rfl
  · split
    · simp only [ac, ao, bK]; exact aH (.l .A (.n 2) (.l .B (.n 2) (.l .C (.n 2) (.p (.a (.a (.a (.a (.a (.a .O .I) .A) (.a .B .I)) (.a .O .I)) .C) (.a .O .I)) (.n 10))))) rf [_,_,_] [] s1 s2 s3
    · simp only [ac, ao, bK]; exact aH (.l .A (.n 2) (.l .B (.n 2) (.p (.a (.a (.a (.a (.a (.a .O .I) .A) .O) (.a .O .I)) .B) (.a .O .I)) (.n 10)))) rf [_,_] [] s1 s3
theorem A2 {W : Wd} {n : Nat} {σ : List MO} {Q : VQ} (hW : Wk W) {ns : List Int} (q : ∀ σ', Q (.d (.bool true)) σ') : CallP W (n + 12) 620 [.d (.lst (ns.map .int))] σ Q :=
  law_ok hW (fun mi cs hmi hc => page_ok (aK 1 mi) (by exact hmi.elim (fun h3 => aH (.e .A (.n 2) (.p (.a .A .I) (.n 10))) rf [_] [] h3) fun h3 => aH (.e .A (.n 6) (.p (.a .A .I) (.n 10))) rf [_] [] h3) (Bn fun y _ => AL (by exact hmi.elim (fun h3 => aH (.e .A (.n 2) (.p .A (.n 6))) rf [_] [] h3) fun h3 => aH (.e .A (.n 6) (.p .A (.n 6))) rf [_] [] h3)) (ab (ku fun _ _ => zF) (ab (aT 10 hc) (by decide)))) q
theorem uV {P : Params} {h : Heap} {G : Fz} {ns : List Int} : ∀ {vs : List Value}, WellAll P h vs (ns.map WData.int) → All2 (Rep G) (ns.map D.int) vs := by
  induction ns with
  | nil => intro vs h; cases h; exact .nil
  | cons n ns ih =>
    intro vs h
    cases h with
    | cons a r => cases a with | int _ t => exact .cons (.int _ t) (ih r)
theorem zK (ns : List Int) : ofPy (PyData.list (ns.map PyData.int)) = .list (ns.map WData.int) := by
  have e : ∀ l : List Int, ofPys (l.map PyData.int) = l.map WData.int := fun l => by
    induction l with
    | nil => rfl
    | cons x r ih => show ofPy (.int x) :: ofPys (r.map PyData.int) = _; rw [ih]; rfl
  show WData.list (ofPys (ns.map PyData.int)) = _
  rw [e]
theorem law_run {W : Wd} (hW : Wk W) {s : Shared} {a : Addr} {ns : List Int} {mean' : ExcName → Option Value} {cl : Str → Option Addr} (top : TopOk W.K s.heap) (w1 : Well W.w.params s.heap (.ref a) (ofPy (PyData.list (ns.map PyData.int)))) (hlen : ns.length ≤ 63) (hg : s.gens = #[]) :
    codeAny (model W.prog W.w) callerA (.call (.ref 620) { pos := [.ref a] }) (GoodW PySem.Challenge.rw_nt0302_01.row.claim cl mean' [ofPy (PyData.list (ns.map PyData.int))] s) s := by
  have hn : ∀ b, ¬ tJ [] [] b := fun b h => by obtain ⟨k, ⟨hp, _, _⟩⟩ := h; exact bm hp
  have R : RelH W ⟨s.heap.get?, [], [], s⟩ := ⟨⟨s.heap, top, fun _ _ e => e⟩, fun _ _ e => e, rfl, fun e => bm e, fun h => (hn _ ⟨_, h⟩).elim, fun h => (hn _ ⟨_, h⟩).elim⟩
  rw [zK] at w1
  have rep : Rep s.heap.get? (.lst (ns.map .int)) (.ref a) := by
    cases w1 with
    | @list _ vs _ h1 h2 => exact .lst h1 (by rw [ah]; exact ab hlen (by decide)) (uV h2)
  have ok : Ok 12 callerA := ⟨rfl, by decide, by decide⟩
  refine codeAny_mono ((A2 (n := 0) (σ := []) (Q := fun v _ => v = .d (.bool true)) hW fun σ' => rfl).run ok R rfl (.cons (.d rep) .nil)).run fun r s' z => ?_
  rcases r with e | (_ | _ | _ | v)
  · exact z.elim
  · exact z.elim
  · exact z.elim
  · exact z.elim
  · induction z using Post.casesOn with
    | mk g r =>
      induction r using Val.casesOn with
      | mk rx e =>
        cases e
        cases rx with
        | d rx =>
          cases rx
          refine ⟨.inl ⟨_, _, [], rfl, fun cls => ?_, ReadsW.bool true, ?_, fun _ => ⟨nK, fun a ha => nomatch ha⟩⟩, fun b o e => g.keep b o bJ (hn b) e, ?_, ?_⟩
          · exact raisesW_false (by wrow_none_raised) cls
          · exact postW_of (by wrow_shape) (by wtm_val) (by w_fin)
          · rw [g.s]
          · rw [g.s]; exact hg
theorem A3 {P : Program} {K : Params → Frag} (hW : ∀ w : World, Wk ⟨P, w, K w.params⟩) {w : World} {s : Shared} {fa a : Addr} {ns : List Int} {view : Program} {mg mb : Str → Option Value} {loose : List Str} {mean mean' : ExcName → Option Value} {cl : Str → Option Addr} (KX : (K w.params).In s.heap) (T : Top view loose mean mg mb s.heap) (hs : ∃ mm, s.heap.Ns sysModules mm) (e1 : mg (aa "law") = some (.ref 620)) (hmg : mg (aa "law") = some (.ref fa))
    (w1 : Well w.params s.heap (.ref a) (ofPy (PyData.list (ns.map PyData.int)))) (hlen : ns.length ≤ 63) (hg : s.gens = #[]) :
    codeAny (model P w) callerA (.call (.ref fa) { pos := [.ref a] }) (GoodW PySem.Challenge.rw_nt0302_01.row.claim cl mean' [ofPy (PyData.list (ns.map PyData.int))] s) s := by
  cases hmg.symm.trans e1
  exact law_run (hW w) ⟨KX, ⟨mb, T.b, T.builtins⟩, ⟨mg, T.g⟩, T.nolimit, hs⟩ w1 hlen hg
namespace jh
theorem tw11393978566818538878:1=1:=rfl
theorem tw1610772799950836842:1=1:=rfl
theorem tw12666386261811157157:1=1:=rfl
theorem tw964535174225001308:1=1:=rfl
theorem tw8249469507494296647:1=1:=rfl
theorem tw4855541333118527953:1=1:=rfl
theorem tw200605134532562593:1=1:=rfl
theorem tw5637579098348613498:1=1:=rfl
theorem tw15835387343051564667:1=1:=rfl
theorem tw7350159887674324078:1=1:=rfl
theorem tw17519907632203279095:1=1:=rfl
theorem tw4980322437334847658:1=1:=rfl
theorem tw80608450466714358:1=1:=rfl
theorem tw14593313214573833218:1=1:=rfl
theorem tw10610241920549720263:1=1:=rfl
theorem tw16420572356004830104:1=1:=rfl
theorem tw16628981159869857087:1=1:=rfl
theorem tw10528452814821060545:1=1:=rfl
theorem tw10000179940072930787:1=1:=rfl
theorem tw17975287336366476904:1=1:=rfl
theorem tw18284681207916371060:1=1:=rfl
theorem tw10545624294297788989:1=1:=rfl
theorem tw5622496654847353989:1=1:=rfl
theorem tw14869704117202044505:1=1:=rfl
theorem tw1274301905805192317:1=1:=rfl
theorem tw14324786216472734992:1=1:=rfl
theorem tw5228070390140576539:1=1:=rfl
theorem tw16342380437046948385:1=1:=rfl
theorem tw2338666343669512797:1=1:=rfl
theorem tw8521628760084759104:1=1:=rfl
theorem tw17220534495438063100:1=1:=rfl
theorem tw8365301164300888895:1=1:=rfl
theorem tw3999666530144062367:1=1:=rfl
theorem tw17678832006990781296:1=1:=rfl
theorem tw13823308149493839081:1=1:=rfl
theorem tw752631603399395686:1=1:=rfl
theorem tw509399441784581997:1=1:=rfl
theorem tw1681961317676412202:1=1:=rfl
theorem tw18238780825973631169:1=1:=rfl
theorem tw6596030523688837130:1=1:=rfl
theorem tw781330460291053993:1=1:=rfl
theorem tw9755242114657195552:1=1:=rfl
theorem tw7876594544321892577:1=1:=rfl
theorem tw4532321260845306295:1=1:=rfl
theorem tw7807540641844636716:1=1:=rfl
theorem tw9096036572997396647:1=1:=rfl
theorem tw697195208630463018:1=1:=rfl
theorem tw11412846132293008737:1=1:=rfl
theorem tw3612529243565312323:1=1:=rfl
theorem tw5433468700813964925:1=1:=rfl
theorem tw17539163352918104517:1=1:=rfl
theorem tw14166539467835056046:1=1:=rfl
theorem tw3311392190431191972:1=1:=rfl
theorem tw10329536359671277673:1=1:=rfl
theorem tw14765088872609787858:1=1:=rfl
theorem tw18339119538828006622:1=1:=rfl
theorem tw6511322381079075128:1=1:=rfl
theorem tw8609942587782458686:1=1:=rfl
theorem tw15171790874463255816:1=1:=rfl
theorem tw5021511721841176086:1=1:=rfl
theorem tw9993960622585060784:1=1:=rfl
theorem tw14454472900480125815:1=1:=rfl
theorem tw13295698910161119526:1=1:=rfl
theorem tw15887596164329710932:1=1:=rfl
theorem tw17370003542649875355:1=1:=rfl
theorem tw17399652441101103533:1=1:=rfl
theorem tw571349682992109263:1=1:=rfl
theorem tw6769695756983740431:1=1:=rfl
theorem tw13929719815561158581:1=1:=rfl
theorem tw16738035784581958528:1=1:=rfl
theorem tw5763021207941798081:1=1:=rfl
theorem tw4389569638929452722:1=1:=rfl
theorem tw17785729354476235210:1=1:=rfl
theorem tw14006700318603818624:1=1:=rfl
theorem tw5113465280848351604:1=1:=rfl
theorem tw8423335936714400129:1=1:=rfl
theorem tw13829963648701416411:1=1:=rfl
theorem tw17291881824770052473:1=1:=rfl
theorem tw7627495900474059153:1=1:=rfl
theorem tw17455420339287720926:1=1:=rfl
theorem tw15843664013169465395:1=1:=rfl
theorem tw8890050288924320606:1=1:=rfl
theorem tw13621212482917820089:1=1:=rfl
theorem tw9265729196578898644:1=1:=rfl
theorem tw15598751071650160063:1=1:=rfl
theorem tw14677477781231528930:1=1:=rfl
theorem tw2981097599339963569:1=1:=rfl
theorem tw6331705229120898205:1=1:=rfl
theorem tw879892539912844636:1=1:=rfl
theorem tw15438859282351646963:1=1:=rfl
theorem tw4804624869026527974:1=1:=rfl
theorem tw15027015980520535941:1=1:=rfl
theorem tw16691842290024875872:1=1:=rfl
theorem tw4413288368386056295:1=1:=rfl
theorem tw6382666441850601894:1=1:=rfl
theorem tw7610647976485287161:1=1:=rfl
theorem tw88781615795977469:1=1:=rfl
theorem tw15743831981971073719:1=1:=rfl
theorem tw3028170462369337525:1=1:=rfl
theorem tw2237787176032123677:1=1:=rfl
theorem tw6937072754459977311:1=1:=rfl
theorem tw12782508667773551453:1=1:=rfl
theorem tw17869907963186759132:1=1:=rfl
theorem tw12747538063660879799:1=1:=rfl
theorem tw10069487447025923902:1=1:=rfl
theorem tw17686817374158757834:1=1:=rfl
theorem tw682870802840103145:1=1:=rfl
theorem tw7043101755029212243:1=1:=rfl
theorem tw13574651652948256710:1=1:=rfl
theorem tw7445057098057789214:1=1:=rfl
theorem tw11153380914557554884:1=1:=rfl
theorem tw1426588917108222604:1=1:=rfl
theorem tw17489131721857754579:1=1:=rfl
theorem tw6883101552494800295:1=1:=rfl
theorem tw5059965798298702550:1=1:=rfl
theorem tw12429959931609932260:1=1:=rfl
theorem tw1250044970046937858:1=1:=rfl
theorem tw18088363189132591354:1=1:=rfl
theorem tw1816634199264885578:1=1:=rfl
theorem tw3554295467694466864:1=1:=rfl
theorem tw13750650634299086703:1=1:=rfl
theorem tw16275509190100809319:1=1:=rfl
theorem tw4522013323326600406:1=1:=rfl
theorem tw12833879685028793382:1=1:=rfl
theorem tw13597070692332074408:1=1:=rfl
theorem tw9181346599901733516:1=1:=rfl
theorem tw15902524913789570683:1=1:=rfl
theorem tw17823368612013371599:1=1:=rfl
theorem tw14057219181469633201:1=1:=rfl
theorem tw11781663449382263217:1=1:=rfl
theorem tw10887109352569775027:1=1:=rfl
theorem tw18340322500543968820:1=1:=rfl
theorem tw1927593760001960224:1=1:=rfl
theorem tw3053841460244474764:1=1:=rfl
theorem tw17076181145492893324:1=1:=rfl
theorem tw14317772083971619176:1=1:=rfl
theorem tw17499762990007592689:1=1:=rfl
theorem tw13900427030936872495:1=1:=rfl
theorem tw136447872323079760:1=1:=rfl
theorem tw6839092798398415040:1=1:=rfl
theorem tw2116199476380517457:1=1:=rfl
theorem tw17728521805594124730:1=1:=rfl
theorem tw7775110114873276641:1=1:=rfl
theorem tw17152056655433437517:1=1:=rfl
theorem tw4205957597884507135:1=1:=rfl
theorem tw15877880971400478902:1=1:=rfl
theorem tw9279056095426735388:1=1:=rfl
theorem tw15812316882261046617:1=1:=rfl
theorem tw8974195890769626361:1=1:=rfl
theorem tw8629715260490686132:1=1:=rfl
theorem tw4862592038814016273:1=1:=rfl
theorem tw905889884954395234:1=1:=rfl
theorem tw9283452272759178463:1=1:=rfl
theorem tw7893640717302065205:1=1:=rfl
theorem tw14819240209255082695:1=1:=rfl
theorem tw16611901181677952795:1=1:=rfl
theorem tw2463003352774736869:1=1:=rfl
theorem tw10096677235148674430:1=1:=rfl
theorem tw11790977833990816078:1=1:=rfl
theorem tw740840586209103453:1=1:=rfl
theorem tw7154451009164298882:1=1:=rfl
theorem tw1859268281419533931:1=1:=rfl
theorem tw17633618012288706366:1=1:=rfl
theorem tw11095014108940081567:1=1:=rfl
theorem tw2619773855077610349:1=1:=rfl
theorem tw15674989152249146052:1=1:=rfl
theorem tw11240905531783648113:1=1:=rfl
theorem tw3899555772695758614:1=1:=rfl
theorem tw5319640381283151054:1=1:=rfl
theorem tw11411899756914022162:1=1:=rfl
theorem tw11569103588700061315:1=1:=rfl
theorem tw15497828600713345652:1=1:=rfl
theorem tw11783694918861128499:1=1:=rfl
theorem tw7141853983954086119:1=1:=rfl
theorem tw18425875489083763938:1=1:=rfl
theorem tw6144757099520012287:1=1:=rfl
theorem tw8198771096253260342:1=1:=rfl
theorem tw18367462897952304148:1=1:=rfl
theorem tw5516214764188469561:1=1:=rfl
theorem tw12555701794559137963:1=1:=rfl
theorem tw7184952010532870981:1=1:=rfl
theorem tw9774913536277326005:1=1:=rfl
theorem tw2687953448927974607:1=1:=rfl
theorem tw4688194450871129934:1=1:=rfl
theorem tw10930232251230295215:1=1:=rfl
theorem tw7136278795124873912:1=1:=rfl
theorem tw10180871579833133287:1=1:=rfl
theorem tw11681021651488937594:1=1:=rfl
theorem tw14795522388838182581:1=1:=rfl
theorem tw8113382247512974447:1=1:=rfl
theorem tw14335859696258579467:1=1:=rfl
theorem tw11536203470022082224:1=1:=rfl
theorem tw1410350820674005804:1=1:=rfl
theorem tw13410421605612595810:1=1:=rfl
theorem tw12062137486588089539:1=1:=rfl
theorem tw18041563372705509351:1=1:=rfl
theorem tw12800740310073756910:1=1:=rfl
theorem tw13796962730724631609:1=1:=rfl
theorem tw16128358111187625882:1=1:=rfl
theorem tw326266631463352957:1=1:=rfl
theorem tw18163100840037426370:1=1:=rfl
theorem tw12821187008000881147:1=1:=rfl
theorem tw14774827743174938713:1=1:=rfl
theorem tw7033972393917034960:1=1:=rfl
theorem tw272684297942932577:1=1:=rfl
theorem tw15370372457440153339:1=1:=rfl
theorem tw17889426107348889206:1=1:=rfl
theorem tw17185071226522142746:1=1:=rfl
theorem tw948658440440847594:1=1:=rfl
theorem tw4525634970639117558:1=1:=rfl
theorem tw176512595476757814:1=1:=rfl
theorem tw4294876862445951591:1=1:=rfl
theorem tw11598021825116547125:1=1:=rfl
theorem tw2159145062520551763:1=1:=rfl
theorem tw18039994115048385900:1=1:=rfl
theorem tw4823573025789023251:1=1:=rfl
theorem tw16364341417925353254:1=1:=rfl
theorem tw8738665744016061833:1=1:=rfl
theorem tw7955293210625478549:1=1:=rfl
theorem tw9298731658256718528:1=1:=rfl
theorem tw4334933153833844269:1=1:=rfl
theorem tw17936846093277615144:1=1:=rfl
theorem tw1713045338512899464:1=1:=rfl
theorem tw1156078158506250712:1=1:=rfl
theorem tw15685345347875184159:1=1:=rfl
theorem tw9515349076778825109:1=1:=rfl
theorem tw7382849878266068313:1=1:=rfl
theorem tw12443728619066295711:1=1:=rfl
theorem tw14624874468716405659:1=1:=rfl
theorem tw4686855445547220261:1=1:=rfl
theorem tw10317431786565132947:1=1:=rfl
theorem tw18094161313358155616:1=1:=rfl
theorem tw17920768358571327142:1=1:=rfl
theorem tw1155890344327308382:1=1:=rfl
theorem tw12800631697976216830:1=1:=rfl
theorem tw4210390516577849036:1=1:=rfl
theorem tw9847822517305997898:1=1:=rfl
theorem tw7334808188592759598:1=1:=rfl
theorem tw11121477689322782173:1=1:=rfl
theorem tw4862259675279279987:1=1:=rfl
theorem tw6363885655225506565:1=1:=rfl
theorem tw8058167828276498266:1=1:=rfl
theorem tw3088731849517471388:1=1:=rfl
theorem tw15660548561026450458:1=1:=rfl
theorem tw10388341692293940667:1=1:=rfl
theorem tw12612753033486147673:1=1:=rfl
theorem tw14845755700108766934:1=1:=rfl
theorem tw14108140052850310589:1=1:=rfl
theorem tw3147142205239347135:1=1:=rfl
theorem tw10755499044347265738:1=1:=rfl
theorem tw8649450141051710247:1=1:=rfl
theorem tw7628641115517649391:1=1:=rfl
theorem tw1068676354510983194:1=1:=rfl
theorem tw12621248076179290803:1=1:=rfl
theorem tw16887836274589744449:1=1:=rfl
theorem tw222280798725072193:1=1:=rfl
theorem tw8810023603267389129:1=1:=rfl
theorem tw5878690334858360794:1=1:=rfl
theorem tw3692148095182119119:1=1:=rfl
theorem tw963367643280141356:1=1:=rfl
theorem tw4207375971943271637:1=1:=rfl
theorem tw17588803997946928808:1=1:=rfl
theorem tw1581515789493535508:1=1:=rfl
theorem tw16399774841952703166:1=1:=rfl
theorem tw778148288713747850:1=1:=rfl
theorem tw6370089271815674510:1=1:=rfl
theorem tw7165044359390882221:1=1:=rfl
theorem tw1444242316815692946:1=1:=rfl
theorem tw17239086014875199699:1=1:=rfl
theorem tw2711211794485844697:1=1:=rfl
theorem tw13567638712625384498:1=1:=rfl
theorem tw4519254581860805367:1=1:=rfl
theorem tw15890166987751523433:1=1:=rfl
theorem tw5695985991936416202:1=1:=rfl
theorem tw13801858473623837721:1=1:=rfl
theorem tw3373141363080359697:1=1:=rfl
theorem tw8642592734420909396:1=1:=rfl
theorem tw12413275756470617808:1=1:=rfl
theorem tw13632286912264835396:1=1:=rfl
theorem tw595364696123968506:1=1:=rfl
theorem tw4568817455350954324:1=1:=rfl
theorem tw1034739549869512449:1=1:=rfl
theorem tw6772173901659517207:1=1:=rfl
theorem tw16188182356617821998:1=1:=rfl
theorem tw13651818252401826860:1=1:=rfl
theorem tw8305246472314795796:1=1:=rfl
theorem tw12942860104460453656:1=1:=rfl
theorem tw15106925021987098403:1=1:=rfl
theorem tw999415015517427007:1=1:=rfl
theorem tw3556649350236347117:1=1:=rfl
theorem tw3421396290188748413:1=1:=rfl
theorem tw3371405596261468447:1=1:=rfl
theorem tw14532078427639565128:1=1:=rfl
theorem tw9859729688643557715:1=1:=rfl
theorem tw502228002889977563:1=1:=rfl
theorem tw4093753930010511379:1=1:=rfl
theorem tw10249228332324989331:1=1:=rfl
theorem tw1551179560253791288:1=1:=rfl
theorem tw14454060024129428771:1=1:=rfl
theorem tw811609644133260189:1=1:=rfl
theorem tw6619589259379311059:1=1:=rfl
theorem tw12017688583545663462:1=1:=rfl
theorem tw15409867527813010146:1=1:=rfl
theorem tw6395798125754687647:1=1:=rfl
theorem tw11938260966388730235:1=1:=rfl
theorem tw7702897112951077962:1=1:=rfl
theorem tw6844268884104271020:1=1:=rfl
theorem tw13346135616814481484:1=1:=rfl
theorem tw15264382521088983154:1=1:=rfl
theorem tw11763799623710345687:1=1:=rfl
theorem tw6533200933816280071:1=1:=rfl
theorem tw8285200358759671304:1=1:=rfl
theorem tw11580267274983167169:1=1:=rfl
theorem tw13782695961033416194:1=1:=rfl
theorem tw11767331752141177859:1=1:=rfl
theorem tw1802126758176035424:1=1:=rfl
theorem tw13827094805625017626:1=1:=rfl
theorem tw12119597875425646414:1=1:=rfl
theorem tw3270287292181264857:1=1:=rfl
theorem tw314235318308232325:1=1:=rfl
theorem tw10192111133732077545:1=1:=rfl
theorem tw10862658722368724403:1=1:=rfl
theorem tw9001883795635826683:1=1:=rfl
theorem tw1770940652329645409:1=1:=rfl
theorem tw10942237671386972874:1=1:=rfl
theorem tw252186571960960566:1=1:=rfl
theorem tw6457394218287048618:1=1:=rfl
theorem tw7644233584601438275:1=1:=rfl
theorem tw2058046762956407707:1=1:=rfl
theorem tw4296752636688134948:1=1:=rfl
theorem tw5489613510919057310:1=1:=rfl
theorem tw5583364031083628366:1=1:=rfl
theorem tw12709846993896405621:1=1:=rfl
theorem tw145356381595968230:1=1:=rfl
theorem tw9957119314384152841:1=1:=rfl
theorem tw8407867391680213265:1=1:=rfl
theorem tw16445261405094152289:1=1:=rfl
theorem tw6393753378680878621:1=1:=rfl
theorem tw13793276610942080006:1=1:=rfl
theorem tw7976444621727019290:1=1:=rfl
theorem tw7030186713035835097:1=1:=rfl
theorem tw7067763907660328109:1=1:=rfl
theorem tw4310155384907306606:1=1:=rfl
theorem tw7509638040500973995:1=1:=rfl
theorem tw16850324148256846046:1=1:=rfl
theorem tw1084875219776954516:1=1:=rfl
theorem tw3587166235888086566:1=1:=rfl
theorem tw1785261943556116023:1=1:=rfl
theorem tw14646342981458383081:1=1:=rfl
theorem tw7958419437115046603:1=1:=rfl
theorem tw9827924159808171810:1=1:=rfl
theorem tw10712091872100353924:1=1:=rfl
theorem tw5988813811574761324:1=1:=rfl
theorem tw12758571133893014434:1=1:=rfl
theorem tw17213068923620084797:1=1:=rfl
theorem tw8939288065376902056:1=1:=rfl
theorem tw10188050434772278757:1=1:=rfl
theorem tw4402074230373175099:1=1:=rfl
theorem tw12569092391639311207:1=1:=rfl
theorem tw2976544248283829553:1=1:=rfl
theorem tw11229975909956615947:1=1:=rfl
theorem tw1270902116511035503:1=1:=rfl
theorem tw3016729983821224326:1=1:=rfl
theorem tw14740184878061583786:1=1:=rfl
theorem tw11988480564636882697:1=1:=rfl
theorem tw9977997601257365442:1=1:=rfl
theorem tw6832788873230133953:1=1:=rfl
theorem tw14660170020455443922:1=1:=rfl
theorem tw10050813455201076603:1=1:=rfl
theorem tw17620966317366519760:1=1:=rfl
theorem tw6322657826626197596:1=1:=rfl
theorem tw6662753668146020189:1=1:=rfl
theorem tw5021330186673042221:1=1:=rfl
theorem tw8545447617902456:1=1:=rfl
theorem tw8935295461150011185:1=1:=rfl
theorem tw8126337484448638691:1=1:=rfl
theorem tw13980017975796059212:1=1:=rfl
theorem tw4857493757876586583:1=1:=rfl
theorem tw7142874778234025657:1=1:=rfl
theorem tw15943698600892000648:1=1:=rfl
theorem tw15552934826219928484:1=1:=rfl
theorem tw677787386841160057:1=1:=rfl
theorem tw12851386312759991156:1=1:=rfl
theorem tw2518106258826459701:1=1:=rfl
theorem tw8784328947181833015:1=1:=rfl
theorem tw9305865790545230018:1=1:=rfl
theorem tw12823271091218766763:1=1:=rfl
theorem tw17552562531083435490:1=1:=rfl
theorem tw3783522358306313976:1=1:=rfl
theorem tw17921313071923126769:1=1:=rfl
theorem tw514987309786427332:1=1:=rfl
theorem tw15793656686544915806:1=1:=rfl
theorem tw13123270104517954427:1=1:=rfl
theorem tw7540059319652305231:1=1:=rfl
theorem tw14961451183515014435:1=1:=rfl
theorem tw12067308665959806998:1=1:=rfl
theorem tw3793195049337124475:1=1:=rfl
theorem tw17953789190201141725:1=1:=rfl
theorem tw9440329447791855028:1=1:=rfl
theorem tw10035816944681008897:1=1:=rfl
theorem tw9165327113821342866:1=1:=rfl
theorem tw4735572554228488386:1=1:=rfl
theorem tw2127420415950758709:1=1:=rfl
theorem tw105063555420543459:1=1:=rfl
theorem tw8908486443522328120:1=1:=rfl
theorem tw2158496285991708028:1=1:=rfl
theorem tw14339914551008797011:1=1:=rfl
theorem tw15981429215437207137:1=1:=rfl
theorem tw11573665214058267981:1=1:=rfl
theorem tw16270415044188634413:1=1:=rfl
theorem tw1103358747423546126:1=1:=rfl
theorem tw1704511298507492111:1=1:=rfl
theorem tw11419863462049594772:1=1:=rfl
theorem tw4304719978120332756:1=1:=rfl
theorem tw2586580679337587205:1=1:=rfl
theorem tw11310371777756967012:1=1:=rfl
theorem tw6892186373743933606:1=1:=rfl
theorem tw8195371382786211539:1=1:=rfl
theorem tw497700028401669670:1=1:=rfl
theorem tw4206144186382221336:1=1:=rfl
theorem tw18078916175011398088:1=1:=rfl
theorem tw2409958376618946194:1=1:=rfl
theorem tw5120853674491274525:1=1:=rfl
theorem tw12776848241944298377:1=1:=rfl
theorem tw14662978998957975453:1=1:=rfl
theorem tw7061166115200968545:1=1:=rfl
theorem tw8430432018453637940:1=1:=rfl
theorem tw12262484304433484734:1=1:=rfl
theorem tw17767577839168957319:1=1:=rfl
theorem tw15295297295482953575:1=1:=rfl
theorem tw11951342506438305658:1=1:=rfl
theorem tw2095233158208133115:1=1:=rfl
theorem tw6397316989326229727:1=1:=rfl
theorem tw4128991778732103510:1=1:=rfl
theorem tw12797519857085835548:1=1:=rfl
theorem tw1152350741383703781:1=1:=rfl
theorem tw4557082299781697721:1=1:=rfl
theorem tw10344860804439145651:1=1:=rfl
theorem tw3134187220141398471:1=1:=rfl
theorem tw14698826841984064768:1=1:=rfl
theorem tw16815343538115745800:1=1:=rfl
theorem tw595743172687934917:1=1:=rfl
theorem tw3494340041790756085:1=1:=rfl
theorem tw13739211242101654533:1=1:=rfl
theorem tw8829212695577965705:1=1:=rfl
theorem tw13028749127499301706:1=1:=rfl
theorem tw13100463605738831527:1=1:=rfl
theorem tw10036571646838571835:1=1:=rfl
theorem tw4342450961147620273:1=1:=rfl
theorem tw7798787514890449486:1=1:=rfl
theorem tw7960917669399419057:1=1:=rfl
theorem tw592697026970965795:1=1:=rfl
theorem tw17478319844295066031:1=1:=rfl
theorem tw18077336673169840494:1=1:=rfl
theorem tw15344595837192661120:1=1:=rfl
theorem tw14629407137357958129:1=1:=rfl
theorem tw9289891277877689248:1=1:=rfl
theorem tw7795575309825620505:1=1:=rfl
theorem tw11143348788544650273:1=1:=rfl
theorem tw6952431459935775252:1=1:=rfl
theorem tw3185072781681574358:1=1:=rfl
theorem tw15489562718941635920:1=1:=rfl
theorem tw10793186505231199203:1=1:=rfl
theorem tw17525472773230385311:1=1:=rfl
theorem tw6208239911486200435:1=1:=rfl
theorem tw16619612010608867974:1=1:=rfl
theorem tw7541993693652078182:1=1:=rfl
theorem tw2626489109776583595:1=1:=rfl
theorem tw11883117337934569887:1=1:=rfl
theorem tw10860638330010458389:1=1:=rfl
theorem tw8506149535114638492:1=1:=rfl
theorem tw15793520536475514879:1=1:=rfl
theorem tw8711359321918874772:1=1:=rfl
theorem tw8453772514080033212:1=1:=rfl
theorem tw15960018903075410368:1=1:=rfl
theorem tw9722454453890709067:1=1:=rfl
theorem tw1690305589354810309:1=1:=rfl
theorem tw2025064126371017286:1=1:=rfl
theorem tw2789543388966036772:1=1:=rfl
theorem tw15125295607990372947:1=1:=rfl
theorem tw1731472472990672459:1=1:=rfl
theorem tw17632931173490789836:1=1:=rfl
theorem tw11374026273078496414:1=1:=rfl
theorem tw289299963336662968:1=1:=rfl
theorem tw1467491419600695748:1=1:=rfl
theorem tw14979766568278563031:1=1:=rfl
theorem tw4244808950301828242:1=1:=rfl
theorem tw6292078827672227390:1=1:=rfl
theorem tw4143260114480290721:1=1:=rfl
theorem tw6058599886372783153:1=1:=rfl
theorem tw4997534254995594750:1=1:=rfl
theorem tw13874388318170187425:1=1:=rfl
theorem tw6219605738437090114:1=1:=rfl
theorem tw8304768890786877994:1=1:=rfl
theorem tw9842391162703444229:1=1:=rfl
theorem tw11753094085688737047:1=1:=rfl
theorem tw1312316311267160907:1=1:=rfl
theorem tw11214379992618574963:1=1:=rfl
theorem tw13165780736059469430:1=1:=rfl
theorem tw8121045011093643371:1=1:=rfl
theorem tw7756909610762799109:1=1:=rfl
theorem tw8631476291089925685:1=1:=rfl
theorem tw16121071369172448230:1=1:=rfl
theorem tw13016722026141374265:1=1:=rfl
theorem tw777020338790237068:1=1:=rfl
theorem tw14452563013731602359:1=1:=rfl
theorem tw4156911733103037750:1=1:=rfl
theorem tw1465116752839627731:1=1:=rfl
theorem tw16049996518008059568:1=1:=rfl
theorem tw6055425071439543837:1=1:=rfl
theorem tw3948021630448549763:1=1:=rfl
theorem tw16541707694217969065:1=1:=rfl
theorem tw17633362377197173198:1=1:=rfl
theorem tw18367411590582765484:1=1:=rfl
theorem tw13317888793825595596:1=1:=rfl
theorem tw11465083422272441844:1=1:=rfl
theorem tw17120907736820289028:1=1:=rfl
theorem tw3246657475716607870:1=1:=rfl
theorem tw1851361655860519322:1=1:=rfl
theorem tw4370772326473255398:1=1:=rfl
theorem tw16949115115207091983:1=1:=rfl
theorem tw14705147031151225125:1=1:=rfl
theorem tw5250079381492202626:1=1:=rfl
theorem tw15746948672585740493:1=1:=rfl
theorem tw8392081537522321619:1=1:=rfl
theorem tw6708560632305510326:1=1:=rfl
theorem tw15174053597371685924:1=1:=rfl
theorem tw10725561486186715982:1=1:=rfl
theorem tw10295784142279973527:1=1:=rfl
theorem tw15659191166633437488:1=1:=rfl
theorem tw8504281741620861291:1=1:=rfl
theorem tw80807707531557115:1=1:=rfl
theorem tw13724415871509207501:1=1:=rfl
theorem tw6627178461232124662:1=1:=rfl
theorem tw13174186982631101333:1=1:=rfl
theorem tw16904166059537711309:1=1:=rfl
theorem tw17558212488410151177:1=1:=rfl
theorem tw14471316635366872788:1=1:=rfl
theorem tw12462235233997736750:1=1:=rfl
theorem tw8768579851826844942:1=1:=rfl
theorem tw9366881803547980959:1=1:=rfl
theorem tw6557377515631421855:1=1:=rfl
theorem tw9679111108073747206:1=1:=rfl
theorem tw11584012084662524887:1=1:=rfl
theorem tw11288115455725938889:1=1:=rfl
theorem tw12734772310772839060:1=1:=rfl
theorem tw3272818605704316343:1=1:=rfl
theorem tw2477546299858898668:1=1:=rfl
theorem tw13162525410139593182:1=1:=rfl
theorem tw17828370069466401423:1=1:=rfl
theorem tw5115645230748511832:1=1:=rfl
theorem tw1656022250478432033:1=1:=rfl
theorem tw17647704445845805185:1=1:=rfl
theorem tw12458979581763809327:1=1:=rfl
theorem tw11511550206571241128:1=1:=rfl
theorem tw16027727262071425055:1=1:=rfl
theorem tw8892345967943465546:1=1:=rfl
theorem tw11942834634263817580:1=1:=rfl
theorem tw4378910185972485019:1=1:=rfl
theorem tw11767852686894252330:1=1:=rfl
theorem tw9716656565814861187:1=1:=rfl
theorem tw12029507704029945556:1=1:=rfl
theorem tw12433348459362319206:1=1:=rfl
theorem tw4215987003204970725:1=1:=rfl
theorem tw5579965486725317655:1=1:=rfl
theorem tw15234488983790101661:1=1:=rfl
theorem tw10115252157100597876:1=1:=rfl
theorem tw13740859482494301477:1=1:=rfl
theorem tw1200803266307576359:1=1:=rfl
theorem tw6685117292966041480:1=1:=rfl
theorem tw4017127699582207759:1=1:=rfl
theorem tw17651112862254346507:1=1:=rfl
theorem tw10058245300525995158:1=1:=rfl
theorem tw14439408740063806064:1=1:=rfl
theorem tw8100383060973358993:1=1:=rfl
theorem tw12794961244684316697:1=1:=rfl
theorem tw6585285709901255577:1=1:=rfl
theorem tw17049293410486878740:1=1:=rfl
theorem tw15541276567329848212:1=1:=rfl
theorem tw7955321307243584793:1=1:=rfl
theorem tw3252466670224301969:1=1:=rfl
theorem tw690902956366879898:1=1:=rfl
theorem tw17907324497784738128:1=1:=rfl
theorem tw10800177503327203681:1=1:=rfl
theorem tw5919910296741239728:1=1:=rfl
theorem tw400404022214851639:1=1:=rfl
theorem tw13133264592193034061:1=1:=rfl
theorem tw11951960818629971068:1=1:=rfl
theorem tw16880405892949329546:1=1:=rfl
theorem tw4112086853659673479:1=1:=rfl
theorem tw1951413887263233178:1=1:=rfl
theorem tw15994503914965560168:1=1:=rfl
theorem tw13074726557998265991:1=1:=rfl
theorem tw1298782828788479768:1=1:=rfl
theorem tw1592826291207069623:1=1:=rfl
theorem tw13867073499016129874:1=1:=rfl
theorem tw7194688574888844421:1=1:=rfl
theorem tw1226904905777729518:1=1:=rfl
theorem tw17934919839432510084:1=1:=rfl
theorem tw12554843368240204697:1=1:=rfl
theorem tw3993501431169731334:1=1:=rfl
theorem tw16309500422303244397:1=1:=rfl
theorem tw8560073844787041032:1=1:=rfl
theorem tw2487147674427888210:1=1:=rfl
theorem tw14196815960017759359:1=1:=rfl
theorem tw15162728080220083664:1=1:=rfl
theorem tw5209836933232160211:1=1:=rfl
theorem tw9626465456444952368:1=1:=rfl
theorem tw8971558615829839109:1=1:=rfl
theorem tw12181405315147854545:1=1:=rfl
theorem tw15282782514580349362:1=1:=rfl
theorem tw5646462308517975252:1=1:=rfl
theorem tw10599817199917826473:1=1:=rfl
theorem tw13340474152942787923:1=1:=rfl
theorem tw11172460290598988122:1=1:=rfl
theorem tw7649995665220580296:1=1:=rfl
theorem tw5120187668859855712:1=1:=rfl
theorem tw16014085217244969574:1=1:=rfl
theorem tw13598911608659472246:1=1:=rfl
theorem tw3032175952776751945:1=1:=rfl
theorem tw9906888815002049946:1=1:=rfl
theorem tw16716772857348651361:1=1:=rfl
theorem tw15938644511781838264:1=1:=rfl
theorem tw12976058683835866824:1=1:=rfl
theorem tw1436541965191939727:1=1:=rfl
theorem tw17170700184724491148:1=1:=rfl
theorem tw14538640713497117333:1=1:=rfl
theorem tw2196653187556005596:1=1:=rfl
theorem tw12579811204847534691:1=1:=rfl
theorem tw16117660131059780740:1=1:=rfl
theorem tw2535706255943445435:1=1:=rfl
theorem tw6520343599397874261:1=1:=rfl
theorem tw4341298625470669483:1=1:=rfl
theorem tw14042459937548367770:1=1:=rfl
theorem tw11749786301345920178:1=1:=rfl
theorem tw14094331334528217694:1=1:=rfl
theorem tw17630809169407824208:1=1:=rfl
theorem tw16726268914108812208:1=1:=rfl
theorem tw14096511240541126312:1=1:=rfl
theorem tw11303282137497141126:1=1:=rfl
theorem tw15503095989091652093:1=1:=rfl
theorem tw16694341740340195057:1=1:=rfl
theorem tw3602357309790365399:1=1:=rfl
theorem tw15113306125086183977:1=1:=rfl
theorem tw789828674186696244:1=1:=rfl
theorem tw13312292150285647582:1=1:=rfl
theorem tw15830548873631869949:1=1:=rfl
theorem tw4236351450900674238:1=1:=rfl
theorem tw10279102453636864152:1=1:=rfl
theorem tw8998430699273556352:1=1:=rfl
theorem tw9649762596131708654:1=1:=rfl
theorem tw17511048033537904950:1=1:=rfl
theorem tw4852089006683303711:1=1:=rfl
theorem tw3761063315508631950:1=1:=rfl
theorem tw3826739961862598515:1=1:=rfl
theorem tw4997987595684459719:1=1:=rfl
theorem tw10762476496103132688:1=1:=rfl
theorem tw3695105497429237989:1=1:=rfl
theorem tw9519603497244966370:1=1:=rfl
theorem tw13327383043365381672:1=1:=rfl
theorem tw14716814661965966646:1=1:=rfl
theorem tw1460389145967588755:1=1:=rfl
theorem tw13438978322911487393:1=1:=rfl
theorem tw3674717304387476717:1=1:=rfl
theorem tw10921421644874240769:1=1:=rfl
theorem tw2577997655042320526:1=1:=rfl
theorem tw18022046925627407352:1=1:=rfl
theorem tw3817666516241587631:1=1:=rfl
theorem tw4175888049363228094:1=1:=rfl
theorem tw10723853229901123256:1=1:=rfl
theorem tw2165384089692865320:1=1:=rfl
theorem tw560033012815311931:1=1:=rfl
theorem tw951907480108624616:1=1:=rfl
theorem tw13187713167573214346:1=1:=rfl
theorem tw11877585800672148935:1=1:=rfl
theorem tw9782919325858760271:1=1:=rfl
theorem tw720484042362906368:1=1:=rfl
theorem tw11768486763985592916:1=1:=rfl
theorem tw9427566374058767646:1=1:=rfl
theorem tw17074824394271796295:1=1:=rfl
theorem tw12767057189871326688:1=1:=rfl
theorem tw12926328368991063667:1=1:=rfl
theorem tw15025303017424284512:1=1:=rfl
theorem tw4551056530250733505:1=1:=rfl
theorem tw13824803448371499842:1=1:=rfl
theorem tw11840607290662603022:1=1:=rfl
theorem tw4243818728885606304:1=1:=rfl
theorem tw4801653096016195623:1=1:=rfl
theorem tw11013560872796206822:1=1:=rfl
theorem tw14517429052682393515:1=1:=rfl
theorem tw14806833106011138893:1=1:=rfl
theorem tw951447007099306368:1=1:=rfl
theorem tw7747909889491761939:1=1:=rfl
theorem tw11950394111058520096:1=1:=rfl
theorem tw11667070564928564536:1=1:=rfl
theorem tw17109554611606013356:1=1:=rfl
theorem tw13771417374922106096:1=1:=rfl
theorem tw14266180525834874891:1=1:=rfl
theorem tw8599195941195248938:1=1:=rfl
theorem tw15263816200762015021:1=1:=rfl
theorem tw8245043027351968754:1=1:=rfl
theorem tw9399793782985798967:1=1:=rfl
theorem tw7266908911823666917:1=1:=rfl
theorem tw8592827666373256623:1=1:=rfl
theorem tw6719906569165804546:1=1:=rfl
theorem tw13523427308936288974:1=1:=rfl
theorem tw9745125573343459542:1=1:=rfl
theorem tw1572534723331716479:1=1:=rfl
theorem tw6338491546022345785:1=1:=rfl
theorem tw7814809859068344708:1=1:=rfl
theorem tw16990982681438616323:1=1:=rfl
theorem tw7424363038262400674:1=1:=rfl
theorem tw16050629602231455028:1=1:=rfl
theorem tw14666801302115878598:1=1:=rfl
theorem tw7117862501435919209:1=1:=rfl
theorem tw6665642564932964110:1=1:=rfl
theorem tw7122690919471454947:1=1:=rfl
theorem tw9970697706172564483:1=1:=rfl
theorem tw12602680800237611210:1=1:=rfl
theorem tw10269561018141974205:1=1:=rfl
theorem tw975351199571969580:1=1:=rfl
theorem tw16159485984950714625:1=1:=rfl
theorem tw11578589279691992583:1=1:=rfl
theorem tw7736139015514113060:1=1:=rfl
theorem tw18118672996186228176:1=1:=rfl
theorem tw9765761396505527994:1=1:=rfl
theorem tw629961693086333082:1=1:=rfl
theorem tw6828499743345291486:1=1:=rfl
theorem tw10752333359478335874:1=1:=rfl
theorem tw628832428336468897:1=1:=rfl
theorem tw7694088903026372081:1=1:=rfl
theorem tw7830499996747991817:1=1:=rfl
theorem tw18203357000170006997:1=1:=rfl
theorem tw6189224314233860941:1=1:=rfl
theorem tw15930154191469774338:1=1:=rfl
theorem tw6077761657468424391:1=1:=rfl
theorem tw3740819473807861213:1=1:=rfl
theorem tw5294682839199115808:1=1:=rfl
theorem tw7711725362046614551:1=1:=rfl
theorem tw14123441949400992138:1=1:=rfl
theorem tw11999742367572413636:1=1:=rfl
theorem tw8364111444902402813:1=1:=rfl
theorem tw17561483882058501152:1=1:=rfl
theorem tw18062320646381254817:1=1:=rfl
theorem tw11470243707370013401:1=1:=rfl
theorem tw4213915366103754469:1=1:=rfl
end jh
local macro_rules | `(tactic| k_behind $G:ident $ho:ident $hd:ident $hcd:ident $hD:ident $hmg:ident $hpre:ident $hlay:ident $hrd:ident $hwl:ident $hlo:ident $cd:ident) => `(tactic| (
  refine Ground.open $G ?_
  intro T B D TE TW
  wrow_args $hpre $hlay $hrd $hwl $hlo
  all_goals (
    first | refine callC_kw (enter_call ?_) | refine enter_call ?_
    w_top on
    try refine codeAny_mono ?_ (fun _ _ g => GoodW.toG g)
    exact A3 (by assumption) (by assumption) T (let ⟨mm, a, _⟩ := (T.seer (by kernel_rfl)).mods; ⟨mm, a⟩) (mg_of (by assumption) T.g (by kernel_rfl)) $hmg (by assumption) (by omega) (by assumption))))
set_option Elab.async true
set_option maxHeartbeats 0
theorem jh : PySem.Challenge.rw_nt0302_01.Holds := by
  w_on; o_law; k_head; (case hw => w_witness2)
  have hW : ∀ w : World, Wk ⟨PySem.Challenge.pw_nt0302_01, w, Mine.jh.heap_1_39 w.params⟩ := by
    intro w
    have VT : xe ⟨PySem.Challenge.pw_nt0302_01, w, Mine.jh.heap_1_39 w.params⟩ TT := {
      glob := ⟨.inl ⟨_, rfl, .str _ _⟩, .inl ⟨_, rfl, .str _ _⟩, .inl ⟨_, rfl, .str _ _⟩, .inl ⟨_, rfl, .str _ _⟩, .inl ⟨_, rfl, .str _ _⟩, .inl ⟨_, rfl, .int _ _⟩, .inl ⟨_, rfl, .bytes _ (by decide)⟩, .inl ⟨_, rfl, .bytes _ (by decide)⟩, .inl ⟨_, rfl, .bytes _ (by decide)⟩, .inl ⟨_, rfl, .bytes _ (by decide)⟩, .inr ⟨_, rfl, rfl, by decide, rfl⟩, .inr ⟨_, rfl, rfl, by decide, rfl⟩, .inr ⟨_, rfl, rfl, by decide, rfl⟩, trivial⟩
      call := ⟨.inl ⟨by kernel_rfl, by kernel_rfl⟩, .inl ⟨by kernel_rfl, by kernel_rfl⟩, .inl ⟨by kernel_rfl, by kernel_rfl⟩, .inl ⟨by kernel_rfl, by kernel_rfl⟩, .inl ⟨by kernel_rfl, by kernel_rfl⟩, .inl ⟨by kernel_rfl, by kernel_rfl⟩, .inl ⟨by kernel_rfl, by kernel_rfl⟩, .inl ⟨by kernel_rfl, by kernel_rfl⟩, .inl ⟨by kernel_rfl, by kernel_rfl⟩, .inl ⟨by kernel_rfl, by kernel_rfl⟩, .inl ⟨by kernel_rfl, by kernel_rfl⟩, .inl ⟨by kernel_rfl, by kernel_rfl⟩, .inl ⟨by kernel_rfl, by kernel_rfl⟩, .inl ⟨by kernel_rfl, by kernel_rfl⟩, .inl ⟨by kernel_rfl, by kernel_rfl⟩, .inl ⟨by kernel_rfl, by kernel_rfl⟩, .inl ⟨by kernel_rfl, by kernel_rfl⟩, .inl ⟨by kernel_rfl, by kernel_rfl⟩, .inl ⟨by kernel_rfl, by kernel_rfl⟩, .inl ⟨by kernel_rfl, by kernel_rfl⟩, .inl ⟨by kernel_rfl, by kernel_rfl⟩, .inl ⟨by kernel_rfl, by kernel_rfl⟩, .inl ⟨by kernel_rfl, by kernel_rfl⟩, .inl ⟨by kernel_rfl, by kernel_rfl⟩, .inl ⟨by kernel_rfl, by kernel_rfl⟩, .inl ⟨by kernel_rfl, by kernel_rfl⟩, .inl ⟨by kernel_rfl, by kernel_rfl⟩, .inl ⟨by kernel_rfl, by kernel_rfl⟩, .inl ⟨by kernel_rfl, by kernel_rfl⟩, .inl ⟨by kernel_rfl, by kernel_rfl⟩, .inl ⟨by kernel_rfl, by kernel_rfl⟩, .inl ⟨by kernel_rfl, by kernel_rfl⟩, .inl ⟨by kernel_rfl, by kernel_rfl⟩, .inl ⟨by kernel_rfl, by kernel_rfl⟩, .inl ⟨by kernel_rfl, by kernel_rfl⟩, .inl ⟨by kernel_rfl, by kernel_rfl⟩, .inl ⟨by kernel_rfl, by kernel_rfl⟩, .inl ⟨by kernel_rfl, by kernel_rfl⟩, .inl ⟨by kernel_rfl, by kernel_rfl⟩, .inl ⟨by kernel_rfl, by kernel_rfl⟩, .inr ⟨by kernel_rfl, by decide, by kernel_rfl, .inl ⟨_, rfl⟩⟩, .inr ⟨by kernel_rfl, by decide, by kernel_rfl, .inl ⟨_, rfl⟩⟩, .inr ⟨by kernel_rfl, by decide, by kernel_rfl, .inl ⟨_, rfl⟩⟩, .inr ⟨by kernel_rfl, by decide, by kernel_rfl, .inl ⟨_, rfl⟩⟩, .inr ⟨by kernel_rfl, by decide, by kernel_rfl, .inl ⟨_, rfl⟩⟩, .inr ⟨by kernel_rfl, by decide, by kernel_rfl, .inl ⟨_, rfl⟩⟩, .inr ⟨by kernel_rfl, by decide, by kernel_rfl, .inl ⟨_, rfl⟩⟩, .inr ⟨by kernel_rfl, by decide, by kernel_rfl, .inr ⟨_, rfl⟩⟩, .inr ⟨by kernel_rfl, by decide, by kernel_rfl, .inr ⟨_, rfl⟩⟩, .inr ⟨by kernel_rfl, by decide, by kernel_rfl, .inr ⟨_, rfl⟩⟩, .inr ⟨by kernel_rfl, by decide, by kernel_rfl, .inr ⟨_, rfl⟩⟩, .inr ⟨by kernel_rfl, by decide, by kernel_rfl, .inr ⟨_, rfl⟩⟩, trivial⟩
      fld := uW (p := fun x cs => cs.all fun q => vB (Mine.jh.heap_1_39 w.params) x q.1 q.2) Bo (by kernel_rfl)
      mth := uW (p := fun x cs => cs.all fun q => sM (Mine.jh.heap_1_39 w.params) q.1 x q.2 && !(xk q.1).contains x) AS (by kernel_rfl)
      sts := ⟨rfl, rfl, rfl, rfl, rfl, rfl, rfl, rfl, rfl, rfl, rfl, rfl, rfl, rfl, rfl, rfl, rfl, rfl, rfl, rfl, rfl, rfl, rfl, rfl, trivial⟩ }
    have hW : Wok ⟨PySem.Challenge.pw_nt0302_01, w, Mine.jh.heap_1_39 w.params⟩ rows mks := ⟨⟨
        FnAt.of VT [aa "text"] [aa "numbers", aa "number"] (dv := []) (by kernel_rfl) (by kernel_rfl) (by kernel_rfl) (fun _ => fun S => by kernel_rfl) rfl rfl .nil,
        FnAt.of VT [aa "number", aa "many"] [] (dv := []) (by kernel_rfl) (by kernel_rfl) (by kernel_rfl) (fun _ => fun _ => fun S => by kernel_rfl) rfl rfl .nil,
        FnAt.of VT [aa "octets"] [aa "found", aa "begun", aa "ended"] (dv := []) (by kernel_rfl) (by kernel_rfl) (by kernel_rfl) (fun _ => fun S => by kernel_rfl) rfl rfl .nil,
        FnAt.of VT [aa "self", aa "size"] [] (dv := []) (by kernel_rfl) (by kernel_rfl) (by kernel_rfl) (fun _ => fun _ => fun S => by kernel_rfl) rfl rfl .nil,
        FnAt.of VT [aa "self", aa "octets"] [aa "content"] (dv := []) (by kernel_rfl) (by kernel_rfl) (by kernel_rfl) (fun _ => fun _ => fun S => by kernel_rfl) rfl rfl .nil,
        FnAt.of VT [aa "self", aa "a_from", aa "a_to", aa "b_from", aa "b_to"] [] (dv := []) (by kernel_rfl) (by kernel_rfl) (by kernel_rfl) (fun _ => fun _ => fun _ => fun _ => fun _ => fun S => by kernel_rfl) rfl rfl .nil,
        FnAt.of VT [aa "self"] [] (dv := []) (by kernel_rfl) (by kernel_rfl) (by kernel_rfl) (fun _ => fun S => by kernel_rfl) rfl rfl .nil,
        FnAt.of VT [aa "self", aa "line"] [aa "key", aa "number", aa "other"] (dv := []) (by kernel_rfl) (by kernel_rfl) (by kernel_rfl) (fun _ => fun _ => fun S => by kernel_rfl) rfl rfl .nil,
        FnAt.of VT [aa "self", aa "lines"] [] (dv := []) (by kernel_rfl) (by kernel_rfl) (by kernel_rfl) (fun _ => fun _ => fun S => by kernel_rfl) rfl rfl .nil,
        FnAt.of VT [aa "self", aa "a", aa "b"] [aa "numbers"] (dv := []) (by kernel_rfl) (by kernel_rfl) (by kernel_rfl) (fun _ => fun _ => fun _ => fun S => by kernel_rfl) rfl rfl .nil,
        FnAt.of VT [aa "self"] [] (dv := []) (by kernel_rfl) (by kernel_rfl) (by kernel_rfl) (fun _ => fun S => by kernel_rfl) rfl rfl .nil,
        FnAt.of VT [aa "self", aa "part"] [aa "a_low", aa "a_high", aa "b_low", aa "b_high"] (dv := []) (by kernel_rfl) (by kernel_rfl) (by kernel_rfl) (fun _ => fun _ => fun S => by kernel_rfl) rfl rfl .nil,
        FnAt.of VT [aa "self", aa "part"] [aa "a_low", aa "a_high", aa "b_low", aa "b_high", aa "place"] (dv := []) (by kernel_rfl) (by kernel_rfl) (by kernel_rfl) (fun _ => fun _ => fun S => by kernel_rfl) rfl rfl .nil,
        FnAt.of VT [aa "self"] [aa "found", aa "at", aa "far", aa "a_from", aa "b_from"] (dv := []) (by kernel_rfl) (by kernel_rfl) (by kernel_rfl) (fun _ => fun S => by kernel_rfl) rfl rfl .nil,
        FnAt.of VT [aa "self", aa "part"] [aa "a_low", aa "a_high", aa "b_low", aa "b_high", aa "wide", aa "tall", aa "slant", aa "ahead", aa "behind", aa "many", aa "lane", aa "at"] (dv := []) (by kernel_rfl) (by kernel_rfl) (by kernel_rfl) (fun _ => fun _ => fun S => by kernel_rfl) rfl rfl .nil,
        FnAt.of VT [aa "self", aa "part"] [aa "waiting", aa "a_low", aa "a_high", aa "b_low", aa "b_high", aa "at", aa "far"] (dv := []) (by kernel_rfl) (by kernel_rfl) (by kernel_rfl) (fun _ => fun _ => fun S => by kernel_rfl) rfl rfl .nil,
        FnAt.of VT [aa "reach", aa "lane"] [] (dv := []) (by kernel_rfl) (by kernel_rfl) (by kernel_rfl) (fun _ => fun _ => fun S => by kernel_rfl) rfl rfl .nil,
        FnAt.of VT [aa "a", aa "b"] [aa "sheet"] (dv := []) (by kernel_rfl) (by kernel_rfl) (by kernel_rfl) (fun _ => fun _ => fun S => by kernel_rfl) rfl rfl .nil,
        FnAt.of VT [aa "how", aa "a", aa "b"] [] (dv := []) (by kernel_rfl) (by kernel_rfl) (by kernel_rfl) (fun _ => fun _ => fun _ => fun S => by kernel_rfl) rfl rfl .nil,
        FnAt.of VT [aa "self", aa "word", aa "base", aa "ours", aa "theirs"] [] (dv := []) (by kernel_rfl) (by kernel_rfl) (by kernel_rfl) (fun _ => fun _ => fun _ => fun _ => fun _ => fun S => by kernel_rfl) rfl rfl .nil,
        FnAt.of VT [aa "self", aa "further"] [] (dv := []) (by kernel_rfl) (by kernel_rfl) (by kernel_rfl) (fun _ => fun _ => fun S => by kernel_rfl) rfl rfl .nil,
        FnAt.of VT [aa "self"] [] (dv := []) (by kernel_rfl) (by kernel_rfl) (by kernel_rfl) (fun _ => fun S => by kernel_rfl) rfl rfl .nil,
        FnAt.of VT [aa "self", aa "lines", aa "changes"] [] (dv := []) (by kernel_rfl) (by kernel_rfl) (by kernel_rfl) (fun _ => fun _ => fun _ => fun S => by kernel_rfl) rfl rfl .nil,
        FnAt.of VT [aa "self"] [] (dv := []) (by kernel_rfl) (by kernel_rfl) (by kernel_rfl) (fun _ => fun S => by kernel_rfl) rfl rfl .nil,
        FnAt.of VT [aa "self", aa "end"] [] (dv := []) (by kernel_rfl) (by kernel_rfl) (by kernel_rfl) (fun _ => fun _ => fun S => by kernel_rfl) rfl rfl .nil,
        FnAt.of VT [aa "self", aa "begun"] [aa "last"] (dv := []) (by kernel_rfl) (by kernel_rfl) (by kernel_rfl) (fun _ => fun _ => fun S => by kernel_rfl) rfl rfl .nil,
        FnAt.of VT [aa "is_ours", aa "is_theirs", aa "mine", aa "others"] [] (dv := []) (by kernel_rfl) (by kernel_rfl) (by kernel_rfl) (fun _ => fun _ => fun _ => fun _ => fun S => by kernel_rfl) rfl rfl .nil,
        FnAt.of VT [aa "base", aa "low", aa "one", aa "other"] [aa "counts", aa "places", aa "end", aa "reached", aa "is_ours", aa "is_theirs", aa "mine", aa "others"] (dv := []) (by kernel_rfl) (by kernel_rfl) (by kernel_rfl) (fun _ => fun _ => fun _ => fun _ => fun S => by kernel_rfl) rfl rfl .nil,
        FnAt.of VT [aa "base", aa "ours", aa "theirs", aa "how"] [aa "one", aa "other", aa "found", aa "at", aa "begins", aa "low", aa "mine", aa "chunk"] (dv := []) (by kernel_rfl) (by kernel_rfl) (by kernel_rfl) (fun _ => fun _ => fun _ => fun _ => fun S => by kernel_rfl) rfl rfl .nil,
        FnAt.of VT [aa "chunk", aa "how"] [aa "found", aa "at", aa "change", aa "alike", aa "mine"] (dv := []) (by kernel_rfl) (by kernel_rfl) (by kernel_rfl) (fun _ => fun _ => fun S => by kernel_rfl) rfl rfl .nil,
        FnAt.of VT [aa "pieces"] [aa "found", aa "last", aa "many", aa "piece", aa "whole", aa "between"] (dv := []) (by kernel_rfl) (by kernel_rfl) (by kernel_rfl) (fun _ => fun S => by kernel_rfl) rfl rfl .nil,
        FnAt.of VT [aa "found", aa "style", aa "how"] [aa "pieces", aa "chunk"] (dv := []) (by kernel_rfl) (by kernel_rfl) (by kernel_rfl) (fun _ => fun _ => fun _ => fun S => by kernel_rfl) rfl rfl .nil,
        FnAt.of VT [aa "chunk"] [aa "whole", aa "bare"] (dv := []) (by kernel_rfl) (by kernel_rfl) (by kernel_rfl) (fun _ => fun S => by kernel_rfl) rfl rfl .nil,
        FnAt.of VT [aa "lines", aa "end"] [] (dv := []) (by kernel_rfl) (by kernel_rfl) (by kernel_rfl) (fun _ => fun _ => fun S => by kernel_rfl) rfl rfl .nil,
        FnAt.of VT [aa "number", aa "marker", aa "name", aa "end"] [aa "line"] (dv := []) (by kernel_rfl) (by kernel_rfl) (by kernel_rfl) (fun _ => fun _ => fun _ => fun _ => fun S => by kernel_rfl) rfl rfl .nil,
        FnAt.of VT [aa "chunk", aa "style", aa "names", aa "marker"] [aa "end", aa "found"] (dv := []) (by kernel_rfl) (by kernel_rfl) (by kernel_rfl) (fun _ => fun _ => fun _ => fun _ => fun S => by kernel_rfl) rfl rfl .nil,
        FnAt.of VT [aa "base", aa "ours", aa "theirs", aa "style", aa "favor", aa "names", aa "marker", aa "how"] [aa "found", aa "lines", aa "many", aa "piece"] (dv := [_]) (by kernel_rfl) (by kernel_rfl) (by kernel_rfl) (fun _ => fun _ => fun _ => fun _ => fun _ => fun _ => fun _ => fun S => rfl) rfl rfl (.cons (.d (.str _ _)) .nil),
        FnAt.of VT [aa "line", aa "marker"] [aa "number", aa "rest"] (dv := []) (by kernel_rfl) (by kernel_rfl) (by kernel_rfl) (fun _ => fun _ => fun S => by kernel_rfl) rfl rfl .nil,
        FnAt.of VT [aa "octets", aa "marker"] [] (dv := []) (by kernel_rfl) (by kernel_rfl) (by kernel_rfl) (fun _ => fun _ => fun S => by kernel_rfl) rfl rfl .nil,
        FnAt.of VT [aa "lines", aa "at", aa "marker"] [aa "parts", aa "here", aa "number", aa "told"] (dv := []) (by kernel_rfl) (by kernel_rfl) (by kernel_rfl) (fun _ => fun _ => fun _ => fun S => by kernel_rfl) rfl rfl .nil,
        FnAt.of VT [aa "octets", aa "marker"] [aa "lines", aa "found", aa "plain", aa "at", aa "told"] (dv := []) (by kernel_rfl) (by kernel_rfl) (by kernel_rfl) (fun _ => fun _ => fun S => by kernel_rfl) rfl rfl .nil,
        FnAt.of VT [aa "chunk"] [aa "mine", aa "others"] (dv := []) (by kernel_rfl) (by kernel_rfl) (by kernel_rfl) (fun _ => fun S => by kernel_rfl) rfl rfl .nil,
        FnAt.of VT [aa "octets", aa "hasher", aa "marker"] [aa "found", aa "sides", aa "chunk", aa "one", aa "other", aa "told"] (dv := []) (by kernel_rfl) (by kernel_rfl) (by kernel_rfl) (fun _ => fun _ => fun _ => fun S => by kernel_rfl) rfl rfl .nil,
        FnAt.of VT [aa "octets", aa "normal", aa "resolution", aa "hasher", aa "marker"] [aa "told", aa "now", aa "found", aa "many"] (dv := []) (by kernel_rfl) (by kernel_rfl) (by kernel_rfl) (fun _ => fun _ => fun _ => fun _ => fun _ => fun S => by kernel_rfl) rfl rfl .nil,
        FnAt.of VT [aa "octets", aa "words", aa "marker"] [aa "found", aa "number", aa "chunk", aa "word"] (dv := []) (by kernel_rfl) (by kernel_rfl) (by kernel_rfl) (fun _ => fun _ => fun _ => fun S => by kernel_rfl) rfl rfl .nil,
        FnAt.of VT [aa "number", aa "many", aa "name"] [] (dv := []) (by kernel_rfl) (by kernel_rfl) (by kernel_rfl) (fun _ => fun _ => fun _ => fun S => by kernel_rfl) rfl rfl .nil,
        FnAt.of VT [aa "number"] [] (dv := []) (by kernel_rfl) (by kernel_rfl) (by kernel_rfl) (fun _ => fun S => by kernel_rfl) rfl rfl .nil,
        FnAt.of VT [aa "number", aa "many"] [aa "way", aa "more", aa "odd", aa "middle", aa "found"] (dv := []) (by kernel_rfl) (by kernel_rfl) (by kernel_rfl) (fun _ => fun _ => fun S => by kernel_rfl) rfl rfl .nil,
        FnAt.of VT [aa "line", aa "many"] [aa "k", aa "rest"] (dv := []) (by kernel_rfl) (by kernel_rfl) (by kernel_rfl) (fun _ => fun _ => fun S => by kernel_rfl) rfl rfl .nil,
        FnAt.of VT [aa "lines", aa "many"] [aa "kinds", aa "found", aa "plain", aa "at", aa "ends", aa "here", aa "want", aa "first", aa "bar", aa "middle", aa "last", aa "ours"] (dv := []) (by kernel_rfl) (by kernel_rfl) (by kernel_rfl) (fun _ => fun _ => fun S => by kernel_rfl) rfl rfl .nil,
        FnAt.of VT [aa "ours", aa "old", aa "theirs", aa "many"] [aa "middle"] (dv := []) (by kernel_rfl) (by kernel_rfl) (by kernel_rfl) (fun _ => fun _ => fun _ => fun _ => fun S => by kernel_rfl) rfl rfl .nil,
        FnAt.of VT [aa "cut", aa "many"] [aa "sides", aa "found", aa "it", aa "near", aa "far"] (dv := []) (by kernel_rfl) (by kernel_rfl) (by kernel_rfl) (fun _ => fun _ => fun S => by kernel_rfl) rfl rfl .nil,
        FnAt.of VT [aa "cut", aa "wants", aa "many"] [aa "found", aa "left", aa "it", aa "want"] (dv := []) (by kernel_rfl) (by kernel_rfl) (by kernel_rfl) (fun _ => fun _ => fun _ => fun S => by kernel_rfl) rfl rfl .nil,
        FnAt.of VT [aa "cut", aa "page", aa "wants", aa "many", aa "hasher"] [aa "head", aa "normal", aa "settled", aa "there", aa "it", aa "due", aa "other"] (dv := []) (by kernel_rfl) (by kernel_rfl) (by kernel_rfl) (fun _ => fun _ => fun _ => fun _ => fun _ => fun S => by kernel_rfl) rfl rfl .nil,
        FnAt.of VT [aa "script"] [aa "cells", aa "first", aa "many", aa "hasher", aa "lines", aa "number", aa "page", aa "cut", aa "told", aa "due", aa "sides", aa "text", aa "conflicts", aa "wants", aa "some"] (dv := []) (by kernel_rfl) (by kernel_rfl) (by kernel_rfl) (fun _ => fun S => by kernel_rfl) rfl rfl .nil, trivial⟩, ⟨by kernel_rfl, by kernel_rfl, by kernel_rfl, by kernel_rfl, by kernel_rfl, by kernel_rfl, trivial⟩⟩
    exact hW
  w_strict (k_go0)
end Mine
theorem PySem.Challenge.cw_nt0302_01_holds : PySem.Challenge.rw_nt0302_01.Holds :=
  Mine.jh
