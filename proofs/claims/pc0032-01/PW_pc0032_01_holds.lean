import PyProof.Rows.All
import Wide.All
import OpenK.AllK
import PyProof.Rows.SetFrom
import KE.KSuperObj
import Lean
import PySem.Challenge.RW_pc0032_01
set_option Elab.async false
set_option bootstrap.genMatcherCode false
set_option linter.all false
set_option compiler.extract_closed false
section
set_option genSizeOf false
set_option genInjectivity false
namespace Mine
inductive LX where
  | v (i : Nat)
  | c (i : Nat)
  | a (x y : LX)
  | m (i : Nat) (x : LX)
  | r (x : LX) (i : Nat)
  | s (x y : LX)
  | u (x : LX)
inductive LC where
  | h (k o : Nat) (x y : LX) (r : LC)
  | g (k o : Nat) (x y : LX)
  | f
noncomputable def nth : List Nat → Nat → Nat
  | [], _ => 0
  | x :: r, i => match i with | 0 => x | i + 1 => nth r i
noncomputable def LX.N (e : List Nat) : LX → Nat
  | .v i => nth e i
  | .c i => i
  | .a x y => x.N e + y.N e
  | .m i x => i * x.N e
  | .r x i => x.N e * i
  | _ => 0
noncomputable def delta : Nat → Nat → Nat
  | 0, j => match j with | 0 => 1 | _ + 1 => 0
  | i + 1, j => match j with | 0 => 0 | j + 1 => delta i j
noncomputable def LX.co : LX → Nat → Nat
  | .v i, j => delta (i + 1) j
  | .c i, j => i * delta 0 j
  | .a x y, j => x.co j + y.co j
  | .m i x, j => i * x.co j
  | .r x i, j => i * x.co j
  | _, _ => 0
noncomputable def tot (f : Nat → Nat) : List Nat → Nat
  | [] => 0
  | x :: r => f 0 * x + tot (fun j => f (j + 1)) r
theorem tot_add (e : List Nat) : ∀ f g : Nat → Nat, tot (fun j => f j + g j) e = tot f e + tot g e := by
  induction e with
  | nil => exact fun _ _ => rfl
  | cons x r ih =>
    intro f g
    show (f 0 + g 0) * x + tot _ r = (f 0 * x + tot _ r) + (g 0 * x + tot _ r)
    rw [ih (fun j => f (j + 1)) fun j => g (j + 1), Nat.add_mul, Nat.add_add_add_comm]
theorem tot_mul (k : Nat) (e : List Nat) : ∀ f : Nat → Nat, tot (fun j => k * f j) e = k * tot f e := by
  induction e with
  | nil => exact fun _ => rfl
  | cons x r ih =>
    intro f
    show k * f 0 * x + tot _ r = k * (f 0 * x + tot _ r)
    rw [ih fun j => f (j + 1), Nat.mul_add, Nat.mul_assoc]
theorem tot_zero (e : List Nat) : tot (fun _ => 0) e = 0 := by
  induction e with
  | nil => rfl
  | cons x r ih => show 0 * x + tot _ r = 0; rw [ih, Nat.zero_mul]
theorem tot_delta (e : List Nat) : ∀ i : Nat, tot (delta i) e = nth e i := by
  induction e with
  | nil => exact fun _ => rfl
  | cons x r ih =>
    intro i
    cases i with
    | zero => show 1 * x + tot (fun _ => 0) r = x; rw [tot_zero, Nat.one_mul, Nat.add_zero]
    | succ i => show 0 * x + tot (delta i) r = nth r i; rw [ih, Nat.zero_mul, Nat.zero_add]
theorem tot_N (e : List Nat) (x : LX) : tot x.co (1 :: e) = x.N e := by
  induction x with
  | v i => exact tot_delta (1 :: e) (i + 1)
  | c i => exact (tot_mul i (1 :: e) (delta 0)).trans (by rw [tot_delta]; exact Nat.mul_one i)
  | a x y hx hy => exact (tot_add (1 :: e) _ _).trans (by rw [hx, hy]; rfl)
  | m i x hx => exact (tot_mul i (1 :: e) _).trans (by rw [hx]; rfl)
  | r x i hx => exact (tot_mul i (1 :: e) _).trans (by rw [hx, Nat.mul_comm]; rfl)
  | _ => exact tot_zero _
noncomputable def les (f g : Nat → Nat) : List Nat → Bool
  | [] => true
  | _ :: r => Nat.ble (f 0) (g 0) && les (fun j => f (j + 1)) (fun j => g (j + 1)) r
theorem les_tot (e : List Nat) : ∀ f g : Nat → Nat, les f g e = true → tot f e ≤ tot g e := by
  induction e with
  | nil => exact fun _ _ _ => Nat.le_refl 0
  | cons x r ih =>
    intro f g h
    have h := Bool.and_eq_true_iff.mp h
    exact Nat.add_le_add (Nat.mul_le_mul_right x (Nat.le_of_ble_eq_true h.1)) (ih _ _ h.2)
noncomputable def rel (o : Nat) (a b : Nat) : Prop := match o with
  | 0 => a ≤ b
  | 1 => a < b
  | 2 => a = b
  | 3 => a = b
  | 4 => ¬ a ≤ b
  | _ => ¬ a < b
noncomputable def lo (o : Nat) (x y : LX) : LX := match o with
  | 0 => x
  | 1 => .a x (.c 1)
  | 2 => x
  | 3 => y
  | 4 => .a y (.c 1)
  | _ => y
noncomputable def hi (o : Nat) (x y : LX) : LX := match o with
  | 0 => y
  | 1 => y
  | 2 => y
  | 3 => x
  | 4 => x
  | _ => x
noncomputable def opp (o : Nat) : Nat := match o with
  | 0 => 4
  | 1 => 5
  | 4 => 0
  | _ => 1
theorem rel_lo (e : List Nat) (o : Nat) (x y : LX) (h : rel o (x.N e) (y.N e)) : (lo o x y).N e ≤ (hi o x y).N e := by
  rcases o with _ | _ | _ | _ | _ | o
  · exact h
  · exact h
  · exact Nat.le_of_eq h
  · exact Nat.le_of_eq (Eq.symm h)
  · exact Nat.lt_of_not_le h
  · exact Nat.le_of_not_lt h
theorem opp_rel {a b : Nat} (o : Nat) (h : (Nat.beq o 2 || Nat.beq o 3) = false) (n : ¬ rel o a b) : rel (opp o) a b := by
  rcases o with _ | _ | _ | _ | _ | o
  · exact n
  · exact n
  · cases h
  · cases h
  · exact Classical.byContradiction n
  · exact Classical.byContradiction n
noncomputable def LC.den (e : List Nat) : LC → Prop
  | .h _ o x y r => rel o (x.N e) (y.N e) → r.den e
  | .g _ o x y => rel o (x.N e) (y.N e)
  | .f => False
noncomputable def LC.lo : LC → LX
  | .h k o x y r => .a (.m k (Mine.lo o x y)) r.lo
  | .g k o x y => .m k (Mine.lo (opp o) x y)
  | .f => .c 0
noncomputable def LC.hi : LC → LX
  | .h k o x y r => .a (.m k (Mine.hi o x y)) r.hi
  | .g k o x y => .m k (Mine.hi (opp o) x y)
  | .f => .c 0
noncomputable def LC.ok : LC → Bool
  | .h _ _ _ _ r => r.ok
  | .g _ o _ _ => !(Nat.beq o 2 || Nat.beq o 3)
  | .f => true
theorem LC.go (e : List Nat) (c : LC) (hok : c.ok = true) : ∀ t u : Nat, t ≤ u → u + c.hi.N e < t + c.lo.N e → c.den e := by
  induction c with
  | h k o x y r ih =>
    intro t u ht hs hr
    have h1 := Nat.add_le_add ht (Nat.mul_le_mul_left k (rel_lo e o x y hr))
    exact ih hok _ _ h1 (by rw [Nat.add_assoc, Nat.add_assoc]; exact hs)
  | g k o x y =>
    intro t u ht hs
    exact Classical.byContradiction fun hn => Nat.not_le.mpr hs (Nat.add_le_add ht (Nat.mul_le_mul_left k (rel_lo e _ x y (opp_rel o ((Bool.not_eq_true' _).mp hok) hn))))
  | f => exact fun t u ht hs => Nat.not_le.mpr hs ht
theorem lin (e : List Nat) (c : LC) (h : (c.ok && Nat.blt (c.hi.co 0) (c.lo.co 0) && les (fun j => c.hi.co (j + 1)) (fun j => c.lo.co (j + 1)) e) = true) : c.den e := by
  have h := Bool.and_eq_true_iff.mp h
  have h1 := Bool.and_eq_true_iff.mp h.1
  refine LC.go e c h1.1 0 0 (Nat.le_refl 0) ?_
  rw [Nat.zero_add, Nat.zero_add, ← tot_N e c.hi, ← tot_N e c.lo]
  exact Nat.add_lt_add_of_lt_of_le (Nat.mul_lt_mul_of_pos_right (Nat.le_of_ble_eq_true h1.2) Nat.one_pos) (les_tot e _ _ h.2)
noncomputable def nthZ : List Int → Nat → Int
  | [], _ => 0
  | x :: r, i => match i with | 0 => x | i + 1 => nthZ r i
noncomputable def LX.Z (d : List Int) : LX → Int
  | .v i => nthZ d i
  | .c i => (i : Nat)
  | .a x y => x.Z d + y.Z d
  | .m i x => (i : Nat) * x.Z d
  | .r x i => x.Z d * (i : Nat)
  | .s x y => x.Z d - y.Z d
  | .u x => - x.Z d
noncomputable def two (i : Nat) : Nat := match i with | 0 => 0 | i + 1 => two i + 2
noncomputable def LX.up : Bool → LX → LX
  | b, .v i => .v (if b then two i else two i + 1)
  | b, .c i => .c (if b then i else 0)
  | b, .a x y => .a (x.up b) (y.up b)
  | b, .m i x => .m i (x.up b)
  | b, .r x i => .m i (x.up b)
  | b, .s x y => .a (x.up b) (y.up !b)
  | b, .u x => x.up !b
noncomputable def split2 : List Int → List Nat
  | [] => []
  | x :: r => x.toNat :: (-x).toNat :: split2 r
theorem nth_two (d : List Int) : ∀ i : Nat, ((nth (split2 d) (two i) : Nat) : Int) - (nth (split2 d) (two i + 1) : Nat) = nthZ d i := by
  induction d with
  | nil => exact fun _ => rfl
  | cons x r ih =>
    intro i
    cases i with
    | zero => exact Int.toNat_sub_toNat_neg x
    | succ i => exact ih i
theorem sub_add4 (p q r s : Nat) : ((p + q : Nat) : Int) - ((r + s : Nat) : Int) = ((p : Int) - (r : Int)) + ((q : Int) - (s : Int)) := by rw [Int.natCast_add, Int.natCast_add, Int.sub_eq_add_neg, Int.neg_add, Int.sub_eq_add_neg, Int.sub_eq_add_neg, Int.add_assoc, Int.add_assoc, Int.add_left_comm q]
theorem up_Z (d : List Int) (x : LX) : ((x.up true).N (split2 d) : Int) - ((x.up false).N (split2 d) : Nat) = x.Z d := by
  induction x with
  | v i => exact nth_two d i
  | c i => exact Int.sub_zero _
  | a x y hx hy =>
    show (((x.up true).N _ + (y.up true).N _ : Nat) : Int) - ((x.up false).N _ + (y.up false).N _ : Nat) = x.Z d + y.Z d
    rw [← hx, ← hy]; exact sub_add4 _ _ _ _
  | m i x hx =>
    show ((i * (x.up true).N _ : Nat) : Int) - (i * (x.up false).N _ : Nat) = i * x.Z d
    rw [← hx, Int.mul_sub]; rfl
  | r x i hx =>
    show ((i * (x.up true).N _ : Nat) : Int) - (i * (x.up false).N _ : Nat) = x.Z d * i
    rw [← hx, Int.mul_comm, Int.mul_sub]; rfl
  | s x y hx hy =>
    show (((x.up true).N _ + (y.up false).N _ : Nat) : Int) - ((x.up false).N _ + (y.up true).N _ : Nat) = x.Z d - y.Z d
    rw [← hx, ← hy]; exact (sub_add4 _ _ _ _).trans (congrArg (_ + ·) (Int.neg_sub _ _).symm)
  | u x hx =>
    show ((x.up false).N _ : Int) - ((x.up true).N _ : Nat) = - x.Z d
    rw [← hx]; exact (Int.neg_sub _ _).symm
noncomputable def relZ (o : Nat) (a b : Int) : Prop := match o with
  | 0 => a ≤ b
  | 1 => a < b
  | 2 => a = b
  | 3 => a = b
  | 4 => ¬ a ≤ b
  | _ => ¬ a < b
theorem rel_Z {a b c d : Nat} {x y : Int} (o : Nat) (hx : (a : Int) - (b : Nat) = x) (hy : (c : Int) - (d : Nat) = y) : rel o (a + d) (c + b) ↔ relZ o x y := by
  subst hx hy
  have h0 (a b c d : Nat) : a + d ≤ c + b ↔ (a : Int) - b ≤ (c : Int) - d := by omega
  have h1 := h0 a b c d
  have h2 : a + d < c + b ↔ (a : Int) - b < (c : Int) - d := by rw [← Nat.not_le, ← Int.not_le, h0]
  have h3 : a + d = c + b ↔ (a : Int) - b = (c : Int) - d := by rw [Nat.le_antisymm_iff, Int.le_antisymm_iff, h0, h0]
  rcases o with _ | _ | _ | _ | _ | o
  · exact h1
  · exact h2
  · exact h3
  · exact h3
  · exact not_congr h1
  · exact not_congr h2
noncomputable def LC.denZ (d : List Int) : LC → Prop
  | .h _ o x y r => relZ o (x.Z d) (y.Z d) → r.denZ d
  | .g _ o x y => relZ o (x.Z d) (y.Z d)
  | .f => False
noncomputable def LC.Q : LC → LC
  | .h k o x y r => .h k o (.a (x.up true) (y.up false)) (.a (y.up true) (x.up false)) r.Q
  | .g k o x y => .g k o (.a (x.up true) (y.up false)) (.a (y.up true) (x.up false))
  | .f => .f
theorem LC.go_Z (d : List Int) (c : LC) : c.Q.den (split2 d) → c.denZ d := by
  induction c with
  | h k o x y r ih => exact fun h hr => ih (h ((rel_Z o (up_Z d x) (up_Z d y)).mpr hr))
  | g k o x y => exact (rel_Z o (up_Z d x) (up_Z d y)).mp
  | f => exact id
theorem lini (d : List Int) (c : LC) (h : (c.Q.ok && Nat.blt (c.Q.hi.co 0) (c.Q.lo.co 0) && les (fun j => c.Q.hi.co (j + 1)) (fun j => c.Q.lo.co (j + 1)) (split2 d)) = true) : c.denZ d := c.go_Z d (lin _ c.Q h)
theorem sub_step {n i k : Nat} (h : n - i = k + 1) : n - (i + 1) = k := by rw [Nat.sub_succ, h]; rfl
theorem sub_lt_of {n i k : Nat} (h : n - i = k + 1) : i < n := Nat.lt_of_sub_ne_zero (h ▸ Nat.succ_ne_zero k)
theorem sub_nil {n i : Nat} (h : n - i = 0) (h2 : i ≤ n) : i = n := Nat.le_antisymm h2 (Nat.le_of_sub_eq_zero h)
theorem sub_one {n i : Nat} (h : i < n) : n - i = n - (i + 1) + 1 := (Nat.succ_pred_eq_of_pos (Nat.sub_pos_of_lt h)).symm
theorem half_le {lo hi : Nat} (h : lo ≤ hi) : lo ≤ (lo + hi) / 2 := (Nat.le_div_iff_mul_le Nat.two_pos).mpr (Nat.mul_two lo ▸ Nat.add_le_add_left h lo)
theorem half_lt {lo hi : Nat} (h : lo < hi) : (lo + hi) / 2 < hi := (Nat.div_lt_iff_lt_mul Nat.two_pos).mpr (Nat.mul_two hi ▸ Nat.add_lt_add_right h hi)
theorem abs_lt {x : Int} (h0 : 0 ≤ x) (h : x ≤ 1000000000) : x.natAbs < 2 ^ 64 := Int.ofNat_lt.mp ((Int.natAbs_of_nonneg h0).symm ▸ Int.lt_of_le_of_lt h (by decide))
example (i n : Nat) (h1 : i + 1 ≤ n) : i < n := lin [_,_] (.h 1 0 (.a (.v 0) (.c 1)) (.v 1) (.g 1 1 (.v 0) (.v 1))) rfl h1
example (i n : Nat) (x : Int) (h0 : 0 ≤ x) (h1 : x < i - n) (h2 : i ≤ n) : False := lini [_, _,_] (.h 1 0 (.c 0) (.v 0) (.h 1 1 (.v 0) (.s (.v 1) (.v 2)) (.h 1 0 (.v 1) (.v 2) .f))) rfl h0 h1 (Int.ofNat_le.mpr h2)
example (i n : Nat) (x : Int) (h1 : x < i - n) (h2 : i ≤ n) : 0 ≤ x → False := lini [_, _,_] (.h 1 1 (.v 0) (.s (.v 1) (.v 2)) (.h 1 0 (.v 1) (.v 2) (.h 1 0 (.c 0) (.v 0) .f))) rfl h1 (Int.ofNat_le.mpr h2)
end Mine
end
section
open PySem
namespace Mine
inductive V where
  | none
  | bool (b : Bool)
  | int (i : Int)
  | str (s : Str)
  | tup (xs : List V)
  | lst (xs : List V)
  | rng (lo hi : Int)
  | ref (l : Nat)
  | inst (c : Str) (l : Nat)
  deriving Inhabited
mutual
noncomputable def V.beq : V → V → Bool
  | .none, b => match b with | .none => true | _ => false
  | .bool a, b => match b with | .bool b => a == b | _ => false
  | .int a, b => match b with | .int b => a == b | _ => false
  | .str a, b => match b with | .str b => a == b | _ => false
  | .tup a, b => match b with | .tup b => V.beqs a b | _ => false
  | .lst a, b => match b with | .lst b => V.beqs a b | _ => false
  | .rng a c, b => match b with | .rng d e => a == d && c == e | _ => false
  | .ref a, b => match b with | .ref b => a == b | _ => false
  | .inst a c, b => match b with | .inst d e => a == d && c == e | _ => false
noncomputable def V.beqs : List V → List V → Bool
  | [], b => b.isEmpty
  | x :: xs, b => match b with | y :: ys => V.beq x y && V.beqs xs ys | [] => false
end
theorem no_eq {p : Prop} (h : ¬ p) : (false = true) ↔ p := ⟨fun h => (nomatch h), fun q => (h q).elim⟩
mutual
theorem V.beq_iff : ∀ a b : V, V.beq a b = true ↔ a = b
  | .none, b => by cases b with
    | none => exact ⟨fun _ => rfl, fun _ => rfl⟩
    | _ => exact no_eq nofun
  | .bool a, b => by cases b with
    | bool b => exact ⟨fun h => congrArg V.bool (eq_of_beq h), fun h => by cases h; exact beq_self_eq_true a⟩
    | _ => exact no_eq nofun
  | .int a, b => by cases b with
    | int b => exact ⟨fun h => congrArg V.int (eq_of_beq h), fun h => by cases h; exact beq_self_eq_true a⟩
    | _ => exact no_eq nofun
  | .str a, b => by cases b with
    | str b => exact ⟨fun h => congrArg V.str (eq_of_beq h), fun h => by cases h; exact beq_self_eq_true a⟩
    | _ => exact no_eq nofun
  | .tup a, b => by cases b with
    | tup b => exact ⟨fun h => congrArg V.tup ((V.beqs_iff a b).mp h), fun h => by cases h; exact (V.beqs_iff a a).mpr rfl⟩
    | _ => exact no_eq nofun
  | .lst a, b => by cases b with
    | lst b => exact ⟨fun h => congrArg V.lst ((V.beqs_iff a b).mp h), fun h => by cases h; exact (V.beqs_iff a a).mpr rfl⟩
    | _ => exact no_eq nofun
  | .rng a c, b => by cases b with
    | rng d e => exact ⟨fun h => by have h := Bool.and_eq_true_iff.mp h; rw [eq_of_beq h.1, eq_of_beq h.2], fun h => by cases h; exact Bool.and_eq_true_iff.mpr ⟨beq_self_eq_true _, beq_self_eq_true _⟩⟩
    | _ => exact no_eq nofun
  | .ref a, b => by cases b with
    | ref b => exact ⟨fun h => congrArg V.ref (eq_of_beq h), fun h => by cases h; exact beq_self_eq_true a⟩
    | _ => exact no_eq nofun
  | .inst a c, b => by cases b with
    | inst d e => exact ⟨fun h => by have h := Bool.and_eq_true_iff.mp h; rw [eq_of_beq h.1, eq_of_beq h.2], fun h => by cases h; exact Bool.and_eq_true_iff.mpr ⟨beq_self_eq_true _, beq_self_eq_true _⟩⟩
    | _ => exact no_eq nofun
theorem V.beqs_iff : ∀ a b : List V, V.beqs a b = true ↔ a = b
  | [], b => by cases b with
    | nil => exact ⟨fun _ => rfl, fun _ => rfl⟩
    | cons _ _ => exact no_eq nofun
  | x :: xs, b => by cases b with
    | nil => exact no_eq nofun
    | cons y ys => exact ⟨fun h => by have h := Bool.and_eq_true_iff.mp h; rw [(V.beq_iff x y).mp h.1, (V.beqs_iff xs ys).mp h.2], fun h => by cases h; exact Bool.and_eq_true_iff.mpr ⟨(V.beq_iff x x).mpr rfl, (V.beqs_iff xs xs).mpr rfl⟩⟩
end
inductive MObj where
  | list (xs : List V)
  | fields (fs : List (Str × V))
  | dict (n : Nat)
  deriving Inhabited
noncomputable abbrev Sg := List MObj
noncomputable abbrev M := StateT Sg Option
noncomputable abbrev Rho := Str → Option V
inductive Fl where
  | next
  | brk
  | ret (v : V)
  deriving Inhabited
noncomputable def fail {α : Type} : M α := fun _ => Option.none
noncomputable def need {α : Type} : Option α → M α
  | some a => pure a
  | Option.none => fail
noncomputable def check (b : Bool) : M Unit := if b then pure () else fail
noncomputable def newObj (o : MObj) : M Nat := fun σ => some (σ.length, σ ++ [o])
noncomputable def getObj (l : Nat) : M MObj := fun σ => (σ[l]?).map (·, σ)
noncomputable def setObj (l : Nat) (o : MObj) : M Unit := fun σ => if l < σ.length then some ((), σ.set l o) else Option.none
theorem fail_e {α : Type} {r : α} {C : Prop} (e : Option.none = some r) : C := nomatch e
noncomputable def asInt : V → Option Int
  | .int i => some i
  | _ => Option.none
noncomputable def asBool : V → Option Bool
  | .bool i => some i
  | _ => Option.none
noncomputable def asTup : V → Option (List V)
  | .tup i => some i
  | _ => Option.none
noncomputable def asLst : V → Option (List V)
  | .lst i => some i
  | _ => Option.none
noncomputable def asRef : V → Option Nat
  | .ref i => some i
  | _ => Option.none
noncomputable def isN : V → Bool
  | .none => true
  | _ => false
noncomputable def oList : MObj → Option (List V)
  | .list xs => some xs
  | _ => Option.none
noncomputable def oFields : MObj → Option (List (Str × V))
  | .fields xs => some xs
  | _ => Option.none
noncomputable def one : List V → Option V
  | v :: r => if r.isEmpty then some v else Option.none
  | [] => Option.none
noncomputable def lim : Nat := 1000000
noncomputable def flat : Nat → V → Bool
  | _, .none => true
  | _, .int _ => true
  | n + 1, .tup xs => xs.all (flat n)
  | n + 1, .lst xs => xs.all (flat n)
  | _, _ => false
noncomputable def seqOf (v : V) : M V := match v with
  | .ref l => do
    let o ← getObj l
    let xs ← need (oList o)
    pure (.lst xs)
  | v => pure v
noncomputable def eqV (a b : V) : M Bool := do
  match a, b with
  | .str x, .str y => pure (x == y)
  | a, b => do
    let a ← seqOf a
    let b ← seqOf b
    check (flat 6 a && flat 6 b)
    pure (V.beq a b)
noncomputable def inV (a c : V) : M Bool := do
  let c ← seqOf c
  let xs ← need (asLst c)
  check (flat 5 a && xs.all (flat 5))
  pure (xs.any fun x => V.beq x a)
noncomputable def cmpV (op : CmpOp) (a b : V) : M Bool := match op with
  | .Eq => eqV a b
  | .NotEq => do pure (!(← eqV a b))
  | .Lt => do let x ← need (asInt a); let y ← need (asInt b); pure (decide (x < y))
  | .LtE => do let x ← need (asInt a); let y ← need (asInt b); pure (decide (x ≤ y))
  | .Gt => do let x ← need (asInt a); let y ← need (asInt b); pure (decide (x > y))
  | .GtE => do let x ← need (asInt a); let y ← need (asInt b); pure (decide (x ≥ y))
  | .Is => do
    check (isN b)
    if isN a then pure true else do
      let _ ← need (asTup a)
      pure false
  | .IsNot => do let x ← need (asBool a); let y ← need (asBool b); pure (x != y)
  | .In => inV a b
  | .NotIn => do pure (!(← inV a b))
noncomputable def mkList (tr : Bool) (xs : List V) : M V := do
  check (xs.length ≤ lim)
  if tr then do pure (.ref (← newObj (.list xs))) else pure (.lst xs)
noncomputable def binV (tr : Bool) (op : Operator) (a b : V) : M V := match op with
  | .Add => (match a with
    | .int x => do let y ← need (asInt b); pure (.int (x + y))
    | .tup xs => do let ys ← need (asTup b); check (xs.length + ys.length ≤ lim); pure (.tup (xs ++ ys))
    | .lst xs => do let ys ← need (asLst b); mkList tr (xs ++ ys)
    | _ => fail)
  | .Sub => do let x ← need (asInt a); let y ← need (asInt b); pure (.int (x - y))
  | .Mult => do
    let y ← need (asInt b)
    match a with
    | .int x => do check (decide (x.natAbs < 2 ^ 64)); pure (.int (x * y))
    | .lst xs => do check (decide (0 ≤ y) && decide (y ≤ lim)); check (decide (xs.length * y.toNat ≤ lim)); mkList tr (List.replicate y.toNat xs).flatten
    | _ => fail
  | .Mod => do let x ← need (asInt a); let y ← need (asInt b); check (decide (0 < y)); pure (.int (x % y))
  | .FloorDiv => do let x ← need (asInt a); let y ← need (asInt b); check (decide (0 < y) && decide (x.natAbs < 2 ^ 64)); pure (.int (x / y))
  | _ => fail
noncomputable def truth : V → M Bool
  | .bool b => pure b
  | _ => fail
noncomputable def place (n : Nat) (i : Int) : Option Nat :=
  if 0 ≤ i then (if i < n then some i.toNat else Option.none) else (if 0 ≤ i + n then some (i + n).toNat else Option.none)
noncomputable def asSq : V → Option (List V)
  | .tup xs => some xs
  | .lst xs => some xs
  | _ => Option.none
noncomputable def idxV (o i : V) : M V := do
  let s ← seqOf o
  let k ← need (asInt i)
  let xs ← need (asSq s)
  check (decide (xs.length ≤ lim))
  need ((place xs.length k).bind (xs[·]?))
noncomputable def sliceV (o : V) (lo hi : Option V) : M V := do
  let s ← seqOf o
  let xs ← need (asLst s)
  check (decide (xs.length ≤ lim))
  match lo with
  | Option.none => do
    let v ← need hi
    let h ← need (asInt v)
    check (decide (0 ≤ h))
    pure (.lst (xs.take h.toNat))
  | some v => do
    check hi.isNone
    let l ← need (asInt v)
    check (decide (0 ≤ l))
    pure (.lst (xs.drop l.toNat))
noncomputable def fieldOf (fs : List (Str × V)) (n : Str) : Option V := fs.lookup n
noncomputable def putField (n : Str) (v : V) : List (Str × V) → List (Str × V)
  | [] => [(n, v)]
  | (k, w) :: r => if k == n then (k, v) :: r else (k, w) :: putField n v r
noncomputable def fldsOf (c : Str) : List Str :=
  if c == ("Store" : Str) then ["domains", "firsts", "trail", "marks", "news", "speaker", "is_failed", "clash"]
  else if c == ("Count" : Str) then ["number", "scope", "strength", "taken", "value", "n"]
  else []
noncomputable def attrV (o : V) (n : Str) : M V := match o with
  | .inst c l => do
    check ((fldsOf c).contains n)
    let ob ← getObj l
    let fs ← need (oFields ob)
    need (fieldOf fs n)
  | _ => fail
noncomputable def setAttrV (o : V) (n : Str) (v : V) : M Unit := match o with
  | .inst c l => do
    check ((fldsOf c).contains n)
    let ob ← getObj l
    let fs ← need (oFields ob)
    check (decide (fs.length ≤ 100))
    setObj l (.fields (putField n v fs))
  | _ => fail
noncomputable def methV (v : V) (n : Str) : M Unit := match v with
  | .inst _ l => do
    let ob ← getObj l
    let fs ← need (oFields ob)
    check (fs.lookup n).isNone
  | .ref l => do
    check (n == ("append" : Str) || n == ("pop" : Str) || n == ("count" : Str))
    let ob ← getObj l
    let _ ← need (oList ob)
    pure ()
  | .lst _ => check (n == ("append" : Str) || n == ("pop" : Str) || n == ("count" : Str))
  | _ => fail
noncomputable def setIdxV (o i v : V) : M Unit := do
  let l ← need (asRef o)
  let ob ← getObj l
  let k ← need (asInt i)
  match ob with
  | .list xs => do
    check (decide (0 ≤ k) && decide (k < xs.length) && decide (xs.length ≤ lim))
    setObj l (.list (xs.set k.toNat v))
  | .dict n => do check (decide (n < lim)); setObj l (.dict (n + 1))
  | _ => fail
noncomputable def walkV (v : V) : M (List V × Option Nat) := match v with
  | .tup xs => do check (xs.length ≤ lim); pure (xs, Option.none)
  | .lst xs => do check (xs.length ≤ lim); pure (xs, Option.none)
  | .rng lo hi => do
    check (decide (-1000 ≤ lo) && decide (lo ≤ 100000) && decide (-1000 ≤ hi) && decide (hi ≤ 100000))
    pure ((List.range (hi - lo).toNat).map (fun (k : Nat) => .int (lo + k)), Option.none)
  | .ref l => do
    let ob ← getObj l
    let xs ← need (oList ob)
    check (xs.length ≤ lim)
    pure (xs, some l)
  | _ => fail
noncomputable def still (xs : List V) : Option Nat → M Unit
  | Option.none => pure ()
  | some l => do
    let ob ← getObj l
    let ys ← need (oList ob)
    check (V.beqs xs ys)
noncomputable def intsOf : List V → Option (List Int)
  | [] => some []
  | .int i :: r => (intsOf r).map (i :: ·)
  | _ => Option.none
noncomputable def insertZ (x : Int) : List Int → List Int
  | [] => [x]
  | y :: r => if x < y then x :: y :: r else if x = y then y :: r else y :: insertZ x r
noncomputable def sortedSet (xs : List Int) : List Int := xs.foldr insertZ []
noncomputable def upd (ρ : Rho) (x : Str) (v : V) : Rho := fun y => if y = x then some v else ρ y
inductive EW where
  | name (x : Str)
  | tup (es : List Expr)
  | attr (o : Expr) (n : Str)
  | sub (o i : Expr)
  | call (f : Expr) (as : List Expr) (ks : List Keyword)
  | other
noncomputable def ew : Expr → EW
  | .Name x _ => .name x
  | .Tuple es _ _ => .tup es
  | .Attribute o n _ => .attr o n
  | .Subscript o i _ => .sub o i
  | .Call f as ks _ => .call f as ks
  | _ => .other
noncomputable def nameOf (e : Expr) : Option Str := match ew e with
  | .name x => some x
  | _ => Option.none
noncomputable def namesOf : List Expr → Option (List Str)
  | [] => some []
  | e :: r => (nameOf e).bind fun x => (namesOf r).map (x :: ·)
noncomputable def bindAll : List Str → List V → Rho → Rho
  | x :: xs, v :: vs, ρ => bindAll xs vs (upd ρ x v)
  | _, _, ρ => ρ
noncomputable def nameOk (x : Str) : Bool := !(x == ("__debug__" : Str)) && !(x == ("__classdict__" : Str))
noncomputable def isOwn (sc : Scope) (x : Str) : Bool := (sc.names.lookup x == some .local || sc.names.lookup x == some .cell) && nameOk x
noncomputable def isGlob (sc : Scope) (x : Str) : Bool := sc.names.lookup x == some .globalImplicit && nameOk x
noncomputable def nodupB : List Str → Bool
  | [] => true
  | x :: r => !r.contains x && nodupB r
noncomputable def scopeOk (sc : Scope) : Bool := sc.kind == .function && nodupB (sc.names.map (·.1))
noncomputable def freesOk (sc scope : Scope) : Bool := scope.names.all fun p => !(p.2 == .free) || sc.names.lookup p.1 == some .cell || sc.names.lookup p.1 == some .free
noncomputable def builtinsCalled : List Str := ["int", "len", "list", "max", "min", "range", "tuple"]
noncomputable def callB (f : Str) (vs : List V) : M V :=
  if f == ("int" : Str) then (do
    let v ← need (one vs)
    match v with
    | .int i => pure (.int i)
    | .bool b => pure (.int (if b then 1 else 0))
    | _ => fail)
  else if f == ("len" : Str) then (do
    let v ← need (one vs)
    let s ← seqOf v
    let xs ← need (asSq s)
    check (xs.length ≤ lim)
    pure (.int xs.length))
  else if f == ("list" : Str) then (do
    let v ← need (one vs)
    let s ← seqOf v
    let xs ← need (asSq s)
    check (xs.length ≤ lim)
    pure (.lst xs))
  else if f == ("max" : Str) then (do
    let v ← need vs.head?
    let w ← need (one vs.tail)
    let a ← need (asInt v)
    let b ← need (asInt w)
    pure (.int (max a b)))
  else if f == ("min" : Str) then (do
    let v ← need vs.head?
    let w ← need (one vs.tail)
    let a ← need (asInt v)
    let b ← need (asInt w)
    pure (.int (min a b)))
  else if f == ("range" : Str) then (do
    let v ← need vs.head?
    let a ← need (asInt v)
    if vs.tail.isEmpty then do check (decide (-1000 ≤ a) && decide (a ≤ 100000)); pure (.rng 0 a)
    else do
      let w ← need (one vs.tail)
      let b ← need (asInt w)
      check (decide (-1000 ≤ a) && decide (a ≤ 100000) && decide (-1000 ≤ b) && decide (b ≤ 100000))
      pure (.rng a b))
  else if f == ("tuple" : Str) then (do
    let v ← need (one vs)
    let s ← seqOf v
    let xs ← need (asSq s)
    check (xs.length ≤ lim)
    pure (.tup xs))
  else fail
noncomputable def callL (n : Str) (o : V) (vs : List V) : M V :=
  if n == ("append" : Str) then (do
    let l ← need (asRef o)
    let v ← need (one vs)
    let ob ← getObj l
    let xs ← need (oList ob)
    check (decide (xs.length < lim))
    setObj l (.list (xs ++ [v]))
    pure .none)
  else if n == ("pop" : Str) then (do
    let l ← need (asRef o)
    check vs.isEmpty
    let ob ← getObj l
    let xs ← need (oList ob)
    check (decide (xs.length ≤ lim))
    let v ← need xs.getLast?
    setObj l (.list xs.dropLast)
    pure v)
  else if n == ("count" : Str) then (do
    let xs ← need (asLst o)
    let v ← need (one vs)
    let i ← need (asInt v)
    let ns ← need (intsOf xs)
    pure (.int (ns.count i : Nat)))
  else fail
noncomputable abbrev Key := Option Str × Str
noncomputable abbrev CF := Key → List V → M V
noncomputable def forM' (chk : M Unit) (step : V → Rho → M (Fl × Rho)) : List V → Rho → M (Fl × Rho)
  | [], ρ => pure (.next, ρ)
  | v :: vs, ρ => do
    let r ← step v ρ
    match r.1 with
    | .next => do chk; forM' chk step vs r.2
    | .brk => pure (.next, r.2)
    | .ret w => pure (.ret w, r.2)
noncomputable def compM (chk : M Unit) (step : V → List V × Rho → M (List V × Rho)) : List V → List V × Rho → M (List V × Rho)
  | [], p => pure p
  | v :: vs, p => do
    let q ← step v p
    chk
    compM chk step vs q
noncomputable def whileM (test : Rho → M Bool) (body : Rho → M (Fl × Rho)) : Nat → Rho → M (Fl × Rho)
  | 0, _ => fail
  | n + 1, ρ => do
    if ← test ρ then do
      let r ← body ρ
      match r.1 with
      | .next => whileM test body n r.2
      | .brk => pure (.next, r.2)
      | .ret w => pure (.ret w, r.2)
    else pure (.next, ρ)
noncomputable def asgT (sc : Scope) (t : Expr) (v : V) (ρ : Rho) : M Rho := match ew t with
  | .name x => do check (isOwn sc x); pure (upd ρ x v)
  | .tup ts => do
    let xs ← need (namesOf ts)
    match v with
    | .tup vs => do
      check (vs.length == xs.length && xs.all (isOwn sc) && decide xs.Nodup)
      pure (bindAll xs vs ρ)
    | _ => fail
  | _ => fail
noncomputable def compRho (scope : Scope) (ρ : Rho) : Rho := fun x => if scope.names.lookup x = some .free then ρ x else Option.none
structure Prm where
  tr : Pos → Bool
  classes : List Str
noncomputable def isSuper (e : Expr) : Bool := match ew e with
  | .call f as ks => as.isEmpty && (ks.isEmpty && nameOf f == some ("super" : Str))
  | _ => false
noncomputable def isSlice (e : Expr) : Bool := Nat.beq e.ctorIdx 26
noncomputable def calledWithin (sc : Scope) (g : Str) (n : Nat) (es : List Expr) : Bool := match es with
  | e :: r => match ew e with
    | .call f as ks => r.isEmpty && (ks.isEmpty && (nameOf f == some g && as.length == n && isGlob sc g))
    | _ => false
  | [] => false
noncomputable def callN (P : Prm) (cf : CF) (sc : Scope) (f : Str) (vs : List V) : M V := do
  check (isGlob sc f)
  if builtinsCalled.contains f then callB f vs
  else if P.classes.contains f then do
    let l ← newObj (.fields [])
    match ← cf (some f, ("__init__" : Str)) (.inst f l :: vs) with
    | .none => pure (.inst f l)
    | _ => fail
  else cf (Option.none, f) vs
noncomputable def sortedSetV (x : V) : M V := match x with
  | .lst xs => do
    check (decide (xs.length < 64))
    let ns ← need (intsOf xs)
    pure (.lst ((sortedSet ns).map .int))
  | _ => fail
noncomputable def zipV (x y : V) : M V := match x, y with
  | .lst xs, .lst ys => do
    check (decide (xs.length ≤ lim) && xs.length == ys.length)
    pure (.tup ((xs.zip ys).map fun p => .tup [p.1, p.2]))
  | _, _ => fail
section
variable (P : Prm) (cf : CF)
mutual
noncomputable def ev (sc : Scope) (ρ : Rho) : Expr → M V
  | .Constant c _ _ => match c with
    | .none => pure .none
    | .bool b => pure (.bool b)
    | .int i => pure (.int i)
    | .str s => pure (.str s)
    | _ => fail
  | .Name x _ => need (ρ x)
  | .BoolOp op vs _ => evB sc ρ op vs
  | .BinOp l op r pos => do
    let a ← ev sc ρ l
    let b ← ev sc ρ r
    binV (P.tr pos) op a b
  | .UnaryOp op x _ => do
    let v ← ev sc ρ x
    match op with
    | .Not => do
      let b ← truth v
      pure (.bool (!b))
    | .USub => (match v with | .int i => pure (.int (-i)) | _ => fail)
    | _ => fail
  | .IfExp t a b _ => do
    let c ← tst sc ρ t (ev sc ρ t)
    if c then ev sc ρ a else ev sc ρ b
  | .Dict ks vs _ => match ks, vs with
    | [], [] => do
      let l ← newObj (.dict 0)
      pure (.ref l)
    | _, _ => fail
  | .List es pos => do
    let vs ← evs sc ρ es
    mkList (P.tr pos) vs
  | .Tuple es _ _ => do
    let vs ← evs sc ρ es
    check (decide (vs.length ≤ lim))
    pure (.tup vs)
  | .ListComp elt gens scope pos => do
    check (scopeOk scope && freesOk sc scope && !gens.isEmpty && gens.all fun g => g.is_async == 0)
    let r ← evG sc ρ scope (fun p => do
      let v ← ev scope p.2 elt
      check (decide (p.1.length < lim))
      pure (p.1 ++ [v], p.2)) gens true ([], compRho scope ρ)
    mkList (P.tr pos) r.1
  | .Compare l ops cs _ => do
    let a ← ev sc ρ l
    let b ← evC sc ρ a ops cs
    pure (.bool b)
  | .Attribute o n _ =>
    if isSuper o then fail
    else do
      let v ← ev sc ρ o
      attrV v n
  | .Subscript o i _ =>
    if isSlice i then (match i with
      | .Slice lo hi st _ => match lo, hi, st with
        | Option.none, some h, Option.none => do
          let v ← ev sc ρ o
          let h ← ev sc ρ h
          sliceV v Option.none (some h)
        | some l, Option.none, Option.none => do
          let v ← ev sc ρ o
          let l ← ev sc ρ l
          sliceV v (some l) Option.none
        | _, _, _ => fail
      | _ => fail)
    else do
      let v ← ev sc ρ o
      let k ← ev sc ρ i
      idxV v k
  | .Call f args kws pos => match f, kws with
    | .Attribute o n apos, [] =>
      if isSuper o then fail
      else do
        let v ← ev sc ρ o
        check (decide (apos.endLine = pos.line) && decide (args.length < 29))
        methV v n
        let vs ← evs sc ρ args
        match v with
        | .inst c _ => cf (some c, n) (v :: vs)
        | v => callL n v vs
    | .Name f _, [] =>
      if f == ("tuple" : Str) && calledWithin sc ("zip" : Str) 2 args then (match args with
        | [.Call _ [a, b] _ _] => do
          check (isGlob sc f)
          let x ← ev sc ρ a
          let y ← ev sc ρ b
          zipV x y
        | _ => fail)
      else if f == ("sorted" : Str) && calledWithin sc ("set" : Str) 1 args then (match args with
        | [.Call _ [a] _ _] => do
          check (isGlob sc f)
          let x ← ev sc ρ a
          sortedSetV x
        | _ => fail)
      else do
        let vs ← evs sc ρ args
        callN P cf sc f vs
    | _, _ => fail
  | _ => fail
noncomputable def evs (sc : Scope) (ρ : Rho) : List Expr → M (List V)
  | [] => pure []
  | e :: r => do
    let v ← ev sc ρ e
    let vs ← evs sc ρ r
    pure (v :: vs)
noncomputable def evB (sc : Scope) (ρ : Rho) (op : BoolOp) : List Expr → M V
  | [] => fail
  | e :: r => do
    let v ← ev sc ρ e
    if r.isEmpty then pure v else do
    let t ← truth v
    match op, t with
    | .And, false | .Or, true => pure v
    | _, _ => evB sc ρ op r
noncomputable def evC (sc : Scope) (ρ : Rho) (a : V) : List CmpOp → List Expr → M Bool
  | op :: ops, e :: r => do
    let b ← ev sc ρ e
    let c ← cmpV op a b
    if ops.isEmpty && r.isEmpty then pure c
    else if c then evC sc ρ b ops r else pure false
  | _, _ => fail
noncomputable def tst (sc : Scope) (ρ : Rho) : Expr → M V → M Bool
  | .UnaryOp op x _, whole => match op with
    | .Not => do
      let b ← tst sc ρ x (ev sc ρ x)
      pure (!b)
    | _ => do
      let v ← whole
      truth v
  | .BoolOp op vs _, _ => tstB sc ρ op vs
  | .IfExp .., _ => fail
  | .Compare l ops cs _, _ => do
    let a ← ev sc ρ l
    evC sc ρ a ops cs
  | _, whole => do
    let v ← whole
    truth v
noncomputable def tstB (sc : Scope) (ρ : Rho) (op : BoolOp) : List Expr → M Bool
  | [] => pure (op == .And)
  | e :: r => do
    let t ← tst sc ρ e (ev sc ρ e)
    match op, t with
    | .And, false => pure false
    | .Or, true => pure true
    | _, _ => tstB sc ρ op r
noncomputable def tstAll (sc : Scope) (ρ : Rho) : List Expr → M Bool
  | [] => pure true
  | e :: r => do
    let t ← tst sc ρ e (ev sc ρ e)
    if t then tstAll sc ρ r else pure false
noncomputable def evG (sc : Scope) (ρ : Rho) (scope : Scope) (emit : List V × Rho → M (List V × Rho)) : List Comprehension → Bool → List V × Rho → M (List V × Rho)
  | [], _, p => emit p
  | ⟨t, iter, ifs, asy⟩ :: rest, first, p => do
    check (asy == 0)
    let x ← (if first then ev sc ρ iter else ev scope p.2 iter)
    let w ← walkV x
    compM (still w.1 w.2) (fun v q => do
      let ρ' ← asgT scope t v q.2
      let ok ← tstAll scope ρ' ifs
      if ok then evG sc ρ scope emit rest false (q.1, ρ') else pure (q.1, ρ')) w.1 p
end
noncomputable def asg (sc : Scope) (ρ : Rho) (t : Expr) (v : V) : M Rho := match ew t with
  | .attr o n => do
    let ov ← ev P cf sc ρ o
    setAttrV ov n v
    pure ρ
  | .sub o i => do
    check (!isSlice i)
    let ov ← ev P cf sc ρ o
    let iv ← ev P cf sc ρ i
    setIdxV ov iv v
    pure ρ
  | _ => asgT sc t v ρ
noncomputable def evOpt (sc : Scope) (ρ : Rho) : Option Expr → M V
  | Option.none => pure .none
  | some e => ev P cf sc ρ e
noncomputable def swapFine (a b : Expr) : Bool := match ew a with
  | .tup _ => match ew b with
    | .tup vs => !vs.all (constantsAlone 8)
    | _ => true
  | _ => true
noncomputable def notComp (e : Expr) : Bool := !Nat.beq e.ctorIdx 8
mutual
noncomputable def ex (sc : Scope) (ρ : Rho) : Stmt → M (Fl × Rho)
  | .Expr e _ => do
    check (notComp e)
    let _ ← ev P cf sc ρ e
    pure (.next, ρ)
  | .Pass _ => pure (.next, ρ)
  | .Break _ => pure (.brk, ρ)
  | .Return v _ => do
    let v ← evOpt P cf sc ρ v
    pure (.ret v, ρ)
  | .Assign ts value _ => match ts with
    | [t] => do
      check (swapFine t value)
      let v ← ev P cf sc ρ value
      let ρ' ← asg P cf sc ρ t v
      pure (.next, ρ')
    | _ => fail
  | .If t body orelse _ => do
    let c ← tst P cf sc ρ t (ev P cf sc ρ t)
    if c then exs sc ρ body else exs sc ρ orelse
  | .While t body orelse _ => match orelse with
    | [] => whileM (fun ρ => tst P cf sc ρ t (ev P cf sc ρ t)) (fun ρ => exs sc ρ body) 1000 ρ
    | _ => fail
  | .For t iter body orelse _ => match orelse with
    | [] => do
      let x ← ev P cf sc ρ iter
      let w ← walkV x
      forM' (still w.1 w.2) (fun v ρ => do
        let ρ' ← asgT sc t v ρ
        exs sc ρ' body) w.1 ρ
    | _ => fail
  | _ => fail
noncomputable def exs (sc : Scope) (ρ : Rho) : List Stmt → M (Fl × Rho)
  | [] => pure (.next, ρ)
  | s :: r => do
    let p ← ex sc ρ s
    match p.1 with
    | .next => exs sc p.2 r
    | f => pure (f, p.2)
end
end
structure Fd where
  params : List Str
  body : List Stmt
  scope : Scope
  deriving Inhabited
noncomputable def fdOk (d : Fd) : Bool := d.scope.kind == .function && nodupB (d.scope.names.map (·.1)) && nodupB d.params && d.params.all (isOwn d.scope) && d.scope.names.all (fun p => !(p.2 == .free)) && !d.scope.isCoroutine && !d.scope.isGenerator
noncomputable def callFd (P : Prm) (cf : CF) (d : Fd) (args : List V) : M V := do
  check (fdOk d && args.length == d.params.length)
  let r ← exs P cf d.scope (bindAll d.params args fun _ => Option.none) d.body
  match r.1 with
  | .ret v => pure v
  | _ => pure .none
end Mine
end
section
open PySem PySem.W PyProof.Rows PySem.Spec
set_option maxRecDepth 100000
namespace Mine
noncomputable def asInst : V → Option (Str × Nat)
  | .inst c l => some (c, l)
  | _ => Option.none
noncomputable def four : List V → Option (V × V × V × V)
  | a :: b :: c :: r => (one r).map fun d => (a, b, c, d)
  | _ => Option.none
noncomputable def countInit (P : Prm) (pi : Fd) (args : List V) : M V := do
  let q ← need (four args)
  let i ← need (asInst q.1)
  let ts ← need (asLst q.2.1)
  let n ← need (asInt q.2.2.2)
  check (i.1 == ("Count" : Str))
  check (decide (ts.length < lim))
  let _ ← callFd P (fun _ _ => fail) pi [.inst i.1 i.2, .tup (ts ++ [.int n]), .str ("values" : Str)]
  setAttrV (.inst i.1 i.2) ("taken" : Str) (.tup ts)
  setAttrV (.inst i.1 i.2) ("value" : Str) q.2.2.1
  setAttrV (.inst i.1 i.2) ("n" : Str) (.int n)
  pure .none
noncomputable def mcall (P : Prm) (pi : Fd) (tab : Key → Option Fd) : Nat → CF
  | 0 => fun _ _ => fail
  | n + 1 => fun key args =>
    if key = (some ("Count" : Str), ("__init__" : Str)) then do
      check (decide (0 < n))
      countInit P pi args
    else do
      let d ← need (tab key)
      callFd P (mcall P pi tab n) d args
end Mine
end
section
open PySem PySem.W PyProof.Rows PySem.Spec
set_option maxRecDepth 100000
namespace Mine
@[irreducible] noncomputable def prog : Program := PySem.Challenge.rw_pc0032_01.row.prog
noncomputable def trAll (p : Pos) : Bool := p == ⟨263, 18, 263, 66⟩ || p == ⟨269, 38, 269, 67⟩ || p == ⟨24, 19, 24, 21⟩ || p == ⟨57, 23, 57, 25⟩ || p == ⟨58, 22, 58, 24⟩ || p == ⟨59, 21, 59, 23⟩ || p == ⟨60, 21, 60, 23⟩ || p == ⟨232, 12, 232, 40⟩
noncomputable def prm : Prm := { tr := trAll, classes := ["Store", "Count"] }
@[irreducible] noncomputable def P : Prm := prm
@[irreducible] noncomputable def cm : Str → Option Addr := fun c => if c = "Store" then some 244 else if c = "Count" then some 335 else none
theorem none_ne {α : Type} {a : α} (h : (none : Option α) = some a) : False := nomatch h
@[elab_as_elim] theorem eq_l {α : Sort _} {a b : α} {motive : α → Prop} (h : a = b) (k : motive b) : motive a := h ▸ k
@[elab_as_elim] theorem eq_r {α : Sort _} {a b : α} {motive : α → Prop} (h : a = b) (k : motive a) : motive b := h ▸ k
theorem in_AA {P0 : Prop} {P1 : Prop} {P2 : Prop} (p1 : P0) (p2 : P1) (pz : P2) : P0 ∧ P1 ∧ P2 := ⟨p1, p2, pz⟩
theorem in_AAA {P0 : Prop} {P1 : Prop} {P2 : Prop} {P3 : Prop} (p1 : P0) (p2 : P1) (p3 : P2) (pz : P3) : P0 ∧ P1 ∧ P2 ∧ P3 := ⟨p1, p2, p3, pz⟩
theorem in_AAAA {P0 : Prop} {P1 : Prop} {P2 : Prop} {P3 : Prop} {P4 : Prop} (p1 : P0) (p2 : P1) (p3 : P2) (p4 : P3) (pz : P4) : P0 ∧ P1 ∧ P2 ∧ P3 ∧ P4 := ⟨p1, p2, p3, p4, pz⟩
theorem in_AAAAA {P0 : Prop} {P1 : Prop} {P2 : Prop} {P3 : Prop} {P4 : Prop} {P5 : Prop} (p1 : P0) (p2 : P1) (p3 : P2) (p4 : P3) (p5 : P4) (pz : P5) : P0 ∧ P1 ∧ P2 ∧ P3 ∧ P4 ∧ P5 := ⟨p1, p2, p3, p4, p5, pz⟩
theorem in_AAAAAA {P0 : Prop} {P1 : Prop} {P2 : Prop} {P3 : Prop} {P4 : Prop} {P5 : Prop} {P6 : Prop} (p1 : P0) (p2 : P1) (p3 : P2) (p4 : P3) (p5 : P4) (p6 : P5) (pz : P6) : P0 ∧ P1 ∧ P2 ∧ P3 ∧ P4 ∧ P5 ∧ P6 := ⟨p1, p2, p3, p4, p5, p6, pz⟩
theorem in_AAAAAE {P0 : Prop} {P1 : Prop} {P2 : Prop} {P3 : Prop} {P4 : Prop} {α0 : Sort _} {P5 : α0 → Prop} (p1 : P0) (p2 : P1) (p3 : P2) (p4 : P3) (p5 : P4) (x0 : α0) (pz : P5 x0) : P0 ∧ P1 ∧ P2 ∧ P3 ∧ P4 ∧ ∃ x0 : α0, P5 x0 := ⟨p1, p2, p3, p4, p5, x0, pz⟩
theorem in_AAAAAEA {P0 : Prop} {P1 : Prop} {P2 : Prop} {P3 : Prop} {P4 : Prop} {α0 : Sort _} {P5 : α0 → Prop} {P6 : α0 → Prop} (p1 : P0) (p2 : P1) (p3 : P2) (p4 : P3) (p5 : P4) (x0 : α0) (p6 : P5 x0) (pz : P6 x0) : P0 ∧ P1 ∧ P2 ∧ P3 ∧ P4 ∧ ∃ x0 : α0, P5 x0 ∧ P6 x0 := ⟨p1, p2, p3, p4, p5, x0, p6, pz⟩
theorem in_AAAAEA {P0 : Prop} {P1 : Prop} {P2 : Prop} {P3 : Prop} {α0 : Sort _} {P4 : α0 → Prop} {P5 : α0 → Prop} (p1 : P0) (p2 : P1) (p3 : P2) (p4 : P3) (x0 : α0) (p5 : P4 x0) (pz : P5 x0) : P0 ∧ P1 ∧ P2 ∧ P3 ∧ ∃ x0 : α0, P4 x0 ∧ P5 x0 := ⟨p1, p2, p3, p4, x0, p5, pz⟩
theorem in_AAAAEE {P0 : Prop} {P1 : Prop} {P2 : Prop} {P3 : Prop} {α0 : Sort _} {α1 : Sort _} {P4 : α0 → α1 → Prop} (p1 : P0) (p2 : P1) (p3 : P2) (p4 : P3) (x0 : α0) (x1 : α1) (pz : P4 x0 x1) : P0 ∧ P1 ∧ P2 ∧ P3 ∧ ∃ x0 : α0, ∃ x1 : α1, P4 x0 x1 := ⟨p1, p2, p3, p4, x0, x1, pz⟩
theorem in_AAAEAA {P0 : Prop} {P1 : Prop} {P2 : Prop} {α0 : Sort _} {P3 : α0 → Prop} {P4 : α0 → Prop} {P5 : α0 → Prop} (p1 : P0) (p2 : P1) (p3 : P2) (x0 : α0) (p4 : P3 x0) (p5 : P4 x0) (pz : P5 x0) : P0 ∧ P1 ∧ P2 ∧ ∃ x0 : α0, P3 x0 ∧ P4 x0 ∧ P5 x0 := ⟨p1, p2, p3, x0, p4, p5, pz⟩
theorem in_AAAEEE {P0 : Prop} {P1 : Prop} {P2 : Prop} {α0 : Sort _} {α1 : Sort _} {α2 : Sort _} {P3 : α0 → α1 → α2 → Prop} (p1 : P0) (p2 : P1) (p3 : P2) (x0 : α0) (x1 : α1) (x2 : α2) (pz : P3 x0 x1 x2) : P0 ∧ P1 ∧ P2 ∧ ∃ x0 : α0, ∃ x1 : α1, ∃ x2 : α2, P3 x0 x1 x2 := ⟨p1, p2, p3, x0, x1, x2, pz⟩
theorem in_AAEEAA {P0 : Prop} {P1 : Prop} {α0 : Sort _} {α1 : Sort _} {P2 : α0 → α1 → Prop} {P3 : α0 → α1 → Prop} {P4 : α0 → α1 → Prop} (p1 : P0) (p2 : P1) (x0 : α0) (x1 : α1) (p3 : P2 x0 x1) (p4 : P3 x0 x1) (pz : P4 x0 x1) : P0 ∧ P1 ∧ ∃ x0 : α0, ∃ x1 : α1, P2 x0 x1 ∧ P3 x0 x1 ∧ P4 x0 x1 := ⟨p1, p2, x0, x1, p3, p4, pz⟩
theorem in_AAEEEE {P0 : Prop} {P1 : Prop} {α0 : Sort _} {α1 : Sort _} {α2 : Sort _} {α3 : Sort _} {P2 : α0 → α1 → α2 → α3 → Prop} (p1 : P0) (p2 : P1) (x0 : α0) (x1 : α1) (x2 : α2) (x3 : α3) (pz : P2 x0 x1 x2 x3) : P0 ∧ P1 ∧ ∃ x0 : α0, ∃ x1 : α1, ∃ x2 : α2, ∃ x3 : α3, P2 x0 x1 x2 x3 := ⟨p1, p2, x0, x1, x2, x3, pz⟩
theorem in_AEA {P0 : Prop} {α0 : Sort _} {P1 : α0 → Prop} {P2 : α0 → Prop} (p1 : P0) (x0 : α0) (p2 : P1 x0) (pz : P2 x0) : P0 ∧ ∃ x0 : α0, P1 x0 ∧ P2 x0 := ⟨p1, x0, p2, pz⟩
theorem in_AEAA {P0 : Prop} {α0 : Sort _} {P1 : α0 → Prop} {P2 : α0 → Prop} {P3 : α0 → Prop} (p1 : P0) (x0 : α0) (p2 : P1 x0) (p3 : P2 x0) (pz : P3 x0) : P0 ∧ ∃ x0 : α0, P1 x0 ∧ P2 x0 ∧ P3 x0 := ⟨p1, x0, p2, p3, pz⟩
theorem in_AEAAA {P0 : Prop} {α0 : Sort _} {P1 : α0 → Prop} {P2 : α0 → Prop} {P3 : α0 → Prop} {P4 : α0 → Prop} (p1 : P0) (x0 : α0) (p2 : P1 x0) (p3 : P2 x0) (p4 : P3 x0) (pz : P4 x0) : P0 ∧ ∃ x0 : α0, P1 x0 ∧ P2 x0 ∧ P3 x0 ∧ P4 x0 := ⟨p1, x0, p2, p3, p4, pz⟩
theorem in_AEEAA {P0 : Prop} {α0 : Sort _} {α1 : Sort _} {P1 : α0 → α1 → Prop} {P2 : α0 → α1 → Prop} {P3 : α0 → α1 → Prop} (p1 : P0) (x0 : α0) (x1 : α1) (p2 : P1 x0 x1) (p3 : P2 x0 x1) (pz : P3 x0 x1) : P0 ∧ ∃ x0 : α0, ∃ x1 : α1, P1 x0 x1 ∧ P2 x0 x1 ∧ P3 x0 x1 := ⟨p1, x0, x1, p2, p3, pz⟩
theorem in_AEEEAA {P0 : Prop} {α0 : Sort _} {α1 : Sort _} {α2 : Sort _} {P1 : α0 → α1 → α2 → Prop} {P2 : α0 → α1 → α2 → Prop} {P3 : α0 → α1 → α2 → Prop} (p1 : P0) (x0 : α0) (x1 : α1) (x2 : α2) (p2 : P1 x0 x1 x2) (p3 : P2 x0 x1 x2) (pz : P3 x0 x1 x2) : P0 ∧ ∃ x0 : α0, ∃ x1 : α1, ∃ x2 : α2, P1 x0 x1 x2 ∧ P2 x0 x1 x2 ∧ P3 x0 x1 x2 := ⟨p1, x0, x1, x2, p2, p3, pz⟩
theorem in_EAA {α0 : Sort _} {P0 : α0 → Prop} {P1 : α0 → Prop} {P2 : α0 → Prop} (x0 : α0) (p1 : P0 x0) (p2 : P1 x0) (pz : P2 x0) : ∃ x0 : α0, P0 x0 ∧ P1 x0 ∧ P2 x0 := ⟨x0, p1, p2, pz⟩
theorem in_EAAA {α0 : Sort _} {P0 : α0 → Prop} {P1 : α0 → Prop} {P2 : α0 → Prop} {P3 : α0 → Prop} (x0 : α0) (p1 : P0 x0) (p2 : P1 x0) (p3 : P2 x0) (pz : P3 x0) : ∃ x0 : α0, P0 x0 ∧ P1 x0 ∧ P2 x0 ∧ P3 x0 := ⟨x0, p1, p2, p3, pz⟩
theorem in_EAAAA {α0 : Sort _} {P0 : α0 → Prop} {P1 : α0 → Prop} {P2 : α0 → Prop} {P3 : α0 → Prop} {P4 : α0 → Prop} (x0 : α0) (p1 : P0 x0) (p2 : P1 x0) (p3 : P2 x0) (p4 : P3 x0) (pz : P4 x0) : ∃ x0 : α0, P0 x0 ∧ P1 x0 ∧ P2 x0 ∧ P3 x0 ∧ P4 x0 := ⟨x0, p1, p2, p3, p4, pz⟩
theorem in_EAAAAA {α0 : Sort _} {P0 : α0 → Prop} {P1 : α0 → Prop} {P2 : α0 → Prop} {P3 : α0 → Prop} {P4 : α0 → Prop} {P5 : α0 → Prop} (x0 : α0) (p1 : P0 x0) (p2 : P1 x0) (p3 : P2 x0) (p4 : P3 x0) (p5 : P4 x0) (pz : P5 x0) : ∃ x0 : α0, P0 x0 ∧ P1 x0 ∧ P2 x0 ∧ P3 x0 ∧ P4 x0 ∧ P5 x0 := ⟨x0, p1, p2, p3, p4, p5, pz⟩
theorem in_EAEEA {α0 : Sort _} {P0 : α0 → Prop} {α1 : Sort _} {α2 : Sort _} {P1 : α0 → α1 → α2 → Prop} {P2 : α0 → α1 → α2 → Prop} (x0 : α0) (p1 : P0 x0) (x1 : α1) (x2 : α2) (p2 : P1 x0 x1 x2) (pz : P2 x0 x1 x2) : ∃ x0 : α0, P0 x0 ∧ ∃ x1 : α1, ∃ x2 : α2, P1 x0 x1 x2 ∧ P2 x0 x1 x2 := ⟨x0, p1, x1, x2, p2, pz⟩
theorem in_EEA {α0 : Sort _} {α1 : Sort _} {P0 : α0 → α1 → Prop} {P1 : α0 → α1 → Prop} (x0 : α0) (x1 : α1) (p1 : P0 x0 x1) (pz : P1 x0 x1) : ∃ x0 : α0, ∃ x1 : α1, P0 x0 x1 ∧ P1 x0 x1 := ⟨x0, x1, p1, pz⟩
theorem in_EEAA {α0 : Sort _} {α1 : Sort _} {P0 : α0 → α1 → Prop} {P1 : α0 → α1 → Prop} {P2 : α0 → α1 → Prop} (x0 : α0) (x1 : α1) (p1 : P0 x0 x1) (p2 : P1 x0 x1) (pz : P2 x0 x1) : ∃ x0 : α0, ∃ x1 : α1, P0 x0 x1 ∧ P1 x0 x1 ∧ P2 x0 x1 := ⟨x0, x1, p1, p2, pz⟩
theorem in_EEAAA {α0 : Sort _} {α1 : Sort _} {P0 : α0 → α1 → Prop} {P1 : α0 → α1 → Prop} {P2 : α0 → α1 → Prop} {P3 : α0 → α1 → Prop} (x0 : α0) (x1 : α1) (p1 : P0 x0 x1) (p2 : P1 x0 x1) (p3 : P2 x0 x1) (pz : P3 x0 x1) : ∃ x0 : α0, ∃ x1 : α1, P0 x0 x1 ∧ P1 x0 x1 ∧ P2 x0 x1 ∧ P3 x0 x1 := ⟨x0, x1, p1, p2, p3, pz⟩
theorem in_EEAAAA {α0 : Sort _} {α1 : Sort _} {P0 : α0 → α1 → Prop} {P1 : α0 → α1 → Prop} {P2 : α0 → α1 → Prop} {P3 : α0 → α1 → Prop} {P4 : α0 → α1 → Prop} (x0 : α0) (x1 : α1) (p1 : P0 x0 x1) (p2 : P1 x0 x1) (p3 : P2 x0 x1) (p4 : P3 x0 x1) (pz : P4 x0 x1) : ∃ x0 : α0, ∃ x1 : α1, P0 x0 x1 ∧ P1 x0 x1 ∧ P2 x0 x1 ∧ P3 x0 x1 ∧ P4 x0 x1 := ⟨x0, x1, p1, p2, p3, p4, pz⟩
theorem in_EEAAAAA {α0 : Sort _} {α1 : Sort _} {P0 : α0 → α1 → Prop} {P1 : α0 → α1 → Prop} {P2 : α0 → α1 → Prop} {P3 : α0 → α1 → Prop} {P4 : α0 → α1 → Prop} {P5 : α0 → α1 → Prop} (x0 : α0) (x1 : α1) (p1 : P0 x0 x1) (p2 : P1 x0 x1) (p3 : P2 x0 x1) (p4 : P3 x0 x1) (p5 : P4 x0 x1) (pz : P5 x0 x1) : ∃ x0 : α0, ∃ x1 : α1, P0 x0 x1 ∧ P1 x0 x1 ∧ P2 x0 x1 ∧ P3 x0 x1 ∧ P4 x0 x1 ∧ P5 x0 x1 := ⟨x0, x1, p1, p2, p3, p4, p5, pz⟩
theorem in_EEAAAEE {α0 : Sort _} {α1 : Sort _} {P0 : α0 → α1 → Prop} {P1 : α0 → α1 → Prop} {P2 : α0 → α1 → Prop} {α2 : Sort _} {α3 : Sort _} {P3 : α0 → α1 → α2 → α3 → Prop} (x0 : α0) (x1 : α1) (p1 : P0 x0 x1) (p2 : P1 x0 x1) (p3 : P2 x0 x1) (x2 : α2) (x3 : α3) (pz : P3 x0 x1 x2 x3) : ∃ x0 : α0, ∃ x1 : α1, P0 x0 x1 ∧ P1 x0 x1 ∧ P2 x0 x1 ∧ ∃ x2 : α2, ∃ x3 : α3, P3 x0 x1 x2 x3 := ⟨x0, x1, p1, p2, p3, x2, x3, pz⟩
theorem in_EEAAEE {α0 : Sort _} {α1 : Sort _} {P0 : α0 → α1 → Prop} {P1 : α0 → α1 → Prop} {α2 : Sort _} {α3 : Sort _} {P2 : α0 → α1 → α2 → α3 → Prop} (x0 : α0) (x1 : α1) (p1 : P0 x0 x1) (p2 : P1 x0 x1) (x2 : α2) (x3 : α3) (pz : P2 x0 x1 x2 x3) : ∃ x0 : α0, ∃ x1 : α1, P0 x0 x1 ∧ P1 x0 x1 ∧ ∃ x2 : α2, ∃ x3 : α3, P2 x0 x1 x2 x3 := ⟨x0, x1, p1, p2, x2, x3, pz⟩
theorem in_EEAE {α0 : Sort _} {α1 : Sort _} {P0 : α0 → α1 → Prop} {α2 : Sort _} {P1 : α0 → α1 → α2 → Prop} (x0 : α0) (x1 : α1) (p1 : P0 x0 x1) (x2 : α2) (pz : P1 x0 x1 x2) : ∃ x0 : α0, ∃ x1 : α1, P0 x0 x1 ∧ ∃ x2 : α2, P1 x0 x1 x2 := ⟨x0, x1, p1, x2, pz⟩
theorem in_EEAEAA {α0 : Sort _} {α1 : Sort _} {P0 : α0 → α1 → Prop} {α2 : Sort _} {P1 : α0 → α1 → α2 → Prop} {P2 : α0 → α1 → α2 → Prop} {P3 : α0 → α1 → α2 → Prop} (x0 : α0) (x1 : α1) (p1 : P0 x0 x1) (x2 : α2) (p2 : P1 x0 x1 x2) (p3 : P2 x0 x1 x2) (pz : P3 x0 x1 x2) : ∃ x0 : α0, ∃ x1 : α1, P0 x0 x1 ∧ ∃ x2 : α2, P1 x0 x1 x2 ∧ P2 x0 x1 x2 ∧ P3 x0 x1 x2 := ⟨x0, x1, p1, x2, p2, p3, pz⟩
theorem in_EEAEEA {α0 : Sort _} {α1 : Sort _} {P0 : α0 → α1 → Prop} {α2 : Sort _} {α3 : Sort _} {P1 : α0 → α1 → α2 → α3 → Prop} {P2 : α0 → α1 → α2 → α3 → Prop} (x0 : α0) (x1 : α1) (p1 : P0 x0 x1) (x2 : α2) (x3 : α3) (p2 : P1 x0 x1 x2 x3) (pz : P2 x0 x1 x2 x3) : ∃ x0 : α0, ∃ x1 : α1, P0 x0 x1 ∧ ∃ x2 : α2, ∃ x3 : α3, P1 x0 x1 x2 x3 ∧ P2 x0 x1 x2 x3 := ⟨x0, x1, p1, x2, x3, p2, pz⟩
theorem in_EEEA {α0 : Sort _} {α1 : Sort _} {α2 : Sort _} {P0 : α0 → α1 → α2 → Prop} {P1 : α0 → α1 → α2 → Prop} (x0 : α0) (x1 : α1) (x2 : α2) (p1 : P0 x0 x1 x2) (pz : P1 x0 x1 x2) : ∃ x0 : α0, ∃ x1 : α1, ∃ x2 : α2, P0 x0 x1 x2 ∧ P1 x0 x1 x2 := ⟨x0, x1, x2, p1, pz⟩
theorem in_EEEAA {α0 : Sort _} {α1 : Sort _} {α2 : Sort _} {P0 : α0 → α1 → α2 → Prop} {P1 : α0 → α1 → α2 → Prop} {P2 : α0 → α1 → α2 → Prop} (x0 : α0) (x1 : α1) (x2 : α2) (p1 : P0 x0 x1 x2) (p2 : P1 x0 x1 x2) (pz : P2 x0 x1 x2) : ∃ x0 : α0, ∃ x1 : α1, ∃ x2 : α2, P0 x0 x1 x2 ∧ P1 x0 x1 x2 ∧ P2 x0 x1 x2 := ⟨x0, x1, x2, p1, p2, pz⟩
theorem in_EEEAAA {α0 : Sort _} {α1 : Sort _} {α2 : Sort _} {P0 : α0 → α1 → α2 → Prop} {P1 : α0 → α1 → α2 → Prop} {P2 : α0 → α1 → α2 → Prop} {P3 : α0 → α1 → α2 → Prop} (x0 : α0) (x1 : α1) (x2 : α2) (p1 : P0 x0 x1 x2) (p2 : P1 x0 x1 x2) (p3 : P2 x0 x1 x2) (pz : P3 x0 x1 x2) : ∃ x0 : α0, ∃ x1 : α1, ∃ x2 : α2, P0 x0 x1 x2 ∧ P1 x0 x1 x2 ∧ P2 x0 x1 x2 ∧ P3 x0 x1 x2 := ⟨x0, x1, x2, p1, p2, p3, pz⟩
theorem in_EEEAAAA {α0 : Sort _} {α1 : Sort _} {α2 : Sort _} {P0 : α0 → α1 → α2 → Prop} {P1 : α0 → α1 → α2 → Prop} {P2 : α0 → α1 → α2 → Prop} {P3 : α0 → α1 → α2 → Prop} {P4 : α0 → α1 → α2 → Prop} (x0 : α0) (x1 : α1) (x2 : α2) (p1 : P0 x0 x1 x2) (p2 : P1 x0 x1 x2) (p3 : P2 x0 x1 x2) (p4 : P3 x0 x1 x2) (pz : P4 x0 x1 x2) : ∃ x0 : α0, ∃ x1 : α1, ∃ x2 : α2, P0 x0 x1 x2 ∧ P1 x0 x1 x2 ∧ P2 x0 x1 x2 ∧ P3 x0 x1 x2 ∧ P4 x0 x1 x2 := ⟨x0, x1, x2, p1, p2, p3, p4, pz⟩
theorem in_EEEEEA {α0 : Sort _} {α1 : Sort _} {α2 : Sort _} {α3 : Sort _} {α4 : Sort _} {P0 : α0 → α1 → α2 → α3 → α4 → Prop} {P1 : α0 → α1 → α2 → α3 → α4 → Prop} (x0 : α0) (x1 : α1) (x2 : α2) (x3 : α3) (x4 : α4) (p1 : P0 x0 x1 x2 x3 x4) (pz : P1 x0 x1 x2 x3 x4) : ∃ x0 : α0, ∃ x1 : α1, ∃ x2 : α2, ∃ x3 : α3, ∃ x4 : α4, P0 x0 x1 x2 x3 x4 ∧ P1 x0 x1 x2 x3 x4 := ⟨x0, x1, x2, x3, x4, p1, pz⟩
theorem in_EEEEEE {α0 : Sort _} {α1 : Sort _} {α2 : Sort _} {α3 : Sort _} {α4 : Sort _} {α5 : Sort _} {P0 : α0 → α1 → α2 → α3 → α4 → α5 → Prop} (x0 : α0) (x1 : α1) (x2 : α2) (x3 : α3) (x4 : α4) (x5 : α5) (pz : P0 x0 x1 x2 x3 x4 x5) : ∃ x0 : α0, ∃ x1 : α1, ∃ x2 : α2, ∃ x3 : α3, ∃ x4 : α4, ∃ x5 : α5, P0 x0 x1 x2 x3 x4 x5 := ⟨x0, x1, x2, x3, x4, x5, pz⟩
theorem el_AAAAAE {C : Prop} {P0 : Prop} {P1 : Prop} {P2 : Prop} {P3 : Prop} {P4 : Prop} {α0 : Sort _} {P5 : α0 → Prop} (h : P0 ∧ P1 ∧ P2 ∧ P3 ∧ P4 ∧ ∃ x0 : α0, P5 x0) (k : P0 → P1 → P2 → P3 → P4 → ∀ x0 : α0, P5 x0 → C) : C := by obtain ⟨p1, p2, p3, p4, p5, x0, pz⟩ := h; exact k p1 p2 p3 p4 p5 x0 pz
theorem el_AAAAEA {C : Prop} {P0 : Prop} {P1 : Prop} {P2 : Prop} {P3 : Prop} {α0 : Sort _} {P4 : α0 → Prop} {P5 : α0 → Prop} (h : P0 ∧ P1 ∧ P2 ∧ P3 ∧ ∃ x0 : α0, P4 x0 ∧ P5 x0) (k : P0 → P1 → P2 → P3 → ∀ x0 : α0, P4 x0 → P5 x0 → C) : C := by obtain ⟨p1, p2, p3, p4, x0, p5, pz⟩ := h; exact k p1 p2 p3 p4 x0 p5 pz
theorem el_AAAAEE {C : Prop} {P0 : Prop} {P1 : Prop} {P2 : Prop} {P3 : Prop} {α0 : Sort _} {α1 : Sort _} {P4 : α0 → α1 → Prop} (h : P0 ∧ P1 ∧ P2 ∧ P3 ∧ ∃ x0 : α0, ∃ x1 : α1, P4 x0 x1) (k : P0 → P1 → P2 → P3 → ∀ x0 : α0, ∀ x1 : α1, P4 x0 x1 → C) : C := by obtain ⟨p1, p2, p3, p4, x0, x1, pz⟩ := h; exact k p1 p2 p3 p4 x0 x1 pz
theorem el_AAEEEE {C : Prop} {P0 : Prop} {P1 : Prop} {α0 : Sort _} {α1 : Sort _} {α2 : Sort _} {α3 : Sort _} {P2 : α0 → α1 → α2 → α3 → Prop} (h : P0 ∧ P1 ∧ ∃ x0 : α0, ∃ x1 : α1, ∃ x2 : α2, ∃ x3 : α3, P2 x0 x1 x2 x3) (k : P0 → P1 → ∀ x0 : α0, ∀ x1 : α1, ∀ x2 : α2, ∀ x3 : α3, P2 x0 x1 x2 x3 → C) : C := by obtain ⟨p1, p2, x0, x1, x2, x3, pz⟩ := h; exact k p1 p2 x0 x1 x2 x3 pz
theorem el_AEAAA {C : Prop} {P0 : Prop} {α0 : Sort _} {P1 : α0 → Prop} {P2 : α0 → Prop} {P3 : α0 → Prop} {P4 : α0 → Prop} (h : P0 ∧ ∃ x0 : α0, P1 x0 ∧ P2 x0 ∧ P3 x0 ∧ P4 x0) (k : P0 → ∀ x0 : α0, P1 x0 → P2 x0 → P3 x0 → P4 x0 → C) : C := by obtain ⟨p1, x0, p2, p3, p4, pz⟩ := h; exact k p1 x0 p2 p3 p4 pz
theorem el_EAAAAA {C : Prop} {α0 : Sort _} {P0 : α0 → Prop} {P1 : α0 → Prop} {P2 : α0 → Prop} {P3 : α0 → Prop} {P4 : α0 → Prop} {P5 : α0 → Prop} (h : ∃ x0 : α0, P0 x0 ∧ P1 x0 ∧ P2 x0 ∧ P3 x0 ∧ P4 x0 ∧ P5 x0) (k : ∀ x0 : α0, P0 x0 → P1 x0 → P2 x0 → P3 x0 → P4 x0 → P5 x0 → C) : C := by obtain ⟨x0, p1, p2, p3, p4, p5, pz⟩ := h; exact k x0 p1 p2 p3 p4 p5 pz
theorem el_EAEA {C : Prop} {α0 : Sort _} {P0 : α0 → Prop} {α1 : Sort _} {P1 : α0 → α1 → Prop} {P2 : α0 → α1 → Prop} (h : ∃ x0 : α0, P0 x0 ∧ ∃ x1 : α1, P1 x0 x1 ∧ P2 x0 x1) (k : ∀ x0 : α0, P0 x0 → ∀ x1 : α1, P1 x0 x1 → P2 x0 x1 → C) : C := by obtain ⟨x0, p1, x1, p2, pz⟩ := h; exact k x0 p1 x1 p2 pz
theorem el_EAEEEA {C : Prop} {α0 : Sort _} {P0 : α0 → Prop} {α1 : Sort _} {α2 : Sort _} {α3 : Sort _} {P1 : α0 → α1 → α2 → α3 → Prop} {P2 : α0 → α1 → α2 → α3 → Prop} (h : ∃ x0 : α0, P0 x0 ∧ ∃ x1 : α1, ∃ x2 : α2, ∃ x3 : α3, P1 x0 x1 x2 x3 ∧ P2 x0 x1 x2 x3) (k : ∀ x0 : α0, P0 x0 → ∀ x1 : α1, ∀ x2 : α2, ∀ x3 : α3, P1 x0 x1 x2 x3 → P2 x0 x1 x2 x3 → C) : C := by obtain ⟨x0, p1, x1, x2, x3, p2, pz⟩ := h; exact k x0 p1 x1 x2 x3 p2 pz
theorem el_EEAAAAA {C : Prop} {α0 : Sort _} {α1 : Sort _} {P0 : α0 → α1 → Prop} {P1 : α0 → α1 → Prop} {P2 : α0 → α1 → Prop} {P3 : α0 → α1 → Prop} {P4 : α0 → α1 → Prop} {P5 : α0 → α1 → Prop} (h : ∃ x0 : α0, ∃ x1 : α1, P0 x0 x1 ∧ P1 x0 x1 ∧ P2 x0 x1 ∧ P3 x0 x1 ∧ P4 x0 x1 ∧ P5 x0 x1) (k : ∀ x0 : α0, ∀ x1 : α1, P0 x0 x1 → P1 x0 x1 → P2 x0 x1 → P3 x0 x1 → P4 x0 x1 → P5 x0 x1 → C) : C := by obtain ⟨x0, x1, p1, p2, p3, p4, p5, pz⟩ := h; exact k x0 x1 p1 p2 p3 p4 p5 pz
theorem el_EEAEEAA {C : Prop} {α0 : Sort _} {α1 : Sort _} {P0 : α0 → α1 → Prop} {α2 : Sort _} {α3 : Sort _} {P1 : α0 → α1 → α2 → α3 → Prop} {P2 : α0 → α1 → α2 → α3 → Prop} {P3 : α0 → α1 → α2 → α3 → Prop} (h : ∃ x0 : α0, ∃ x1 : α1, P0 x0 x1 ∧ ∃ x2 : α2, ∃ x3 : α3, P1 x0 x1 x2 x3 ∧ P2 x0 x1 x2 x3 ∧ P3 x0 x1 x2 x3) (k : ∀ x0 : α0, ∀ x1 : α1, P0 x0 x1 → ∀ x2 : α2, ∀ x3 : α3, P1 x0 x1 x2 x3 → P2 x0 x1 x2 x3 → P3 x0 x1 x2 x3 → C) : C := by obtain ⟨x0, x1, p1, x2, x3, p2, p3, pz⟩ := h; exact k x0 x1 p1 x2 x3 p2 p3 pz
theorem el_EEAEEEA {C : Prop} {α0 : Sort _} {α1 : Sort _} {P0 : α0 → α1 → Prop} {α2 : Sort _} {α3 : Sort _} {α4 : Sort _} {P1 : α0 → α1 → α2 → α3 → α4 → Prop} {P2 : α0 → α1 → α2 → α3 → α4 → Prop} (h : ∃ x0 : α0, ∃ x1 : α1, P0 x0 x1 ∧ ∃ x2 : α2, ∃ x3 : α3, ∃ x4 : α4, P1 x0 x1 x2 x3 x4 ∧ P2 x0 x1 x2 x3 x4) (k : ∀ x0 : α0, ∀ x1 : α1, P0 x0 x1 → ∀ x2 : α2, ∀ x3 : α3, ∀ x4 : α4, P1 x0 x1 x2 x3 x4 → P2 x0 x1 x2 x3 x4 → C) : C := by obtain ⟨x0, x1, p1, x2, x3, x4, p2, pz⟩ := h; exact k x0 x1 p1 x2 x3 x4 p2 pz
theorem el_AAAAA {C : Prop} {P0 : Prop} {P1 : Prop} {P2 : Prop} {P3 : Prop} {P4 : Prop} {P5 : Prop} (h : P0 ∧ P1 ∧ P2 ∧ P3 ∧ P4 ∧ P5) (k : P0 → P1 → P2 → P3 → P4 → P5 → C) : C := by obtain ⟨p1, p2, p3, p4, p5, pz⟩ := h; exact k p1 p2 p3 p4 p5 pz
theorem el_AAAAAAA {C : Prop} {P0 : Prop} {P1 : Prop} {P2 : Prop} {P3 : Prop} {P4 : Prop} {P5 : Prop} {P6 : Prop} {P7 : Prop} (h : P0 ∧ P1 ∧ P2 ∧ P3 ∧ P4 ∧ P5 ∧ P6 ∧ P7) (k : P0 → P1 → P2 → P3 → P4 → P5 → P6 → P7 → C) : C := by obtain ⟨p1, p2, p3, p4, p5, p6, p7, pz⟩ := h; exact k p1 p2 p3 p4 p5 p6 p7 pz
theorem el_AAEEAA {C : Prop} {P0 : Prop} {P1 : Prop} {α0 : Sort _} {α1 : Sort _} {P2 : α0 → α1 → Prop} {P3 : α0 → α1 → Prop} {P4 : α0 → α1 → Prop} (h : P0 ∧ P1 ∧ ∃ x0 : α0, ∃ x1 : α1, P2 x0 x1 ∧ P3 x0 x1 ∧ P4 x0 x1) (k : P0 → P1 → ∀ x0 : α0, ∀ x1 : α1, P2 x0 x1 → P3 x0 x1 → P4 x0 x1 → C) : C := by obtain ⟨p1, p2, x0, x1, p3, p4, pz⟩ := h; exact k p1 p2 x0 x1 p3 p4 pz
theorem el_EEAAAA {C : Prop} {α0 : Sort _} {α1 : Sort _} {P0 : α0 → α1 → Prop} {P1 : α0 → α1 → Prop} {P2 : α0 → α1 → Prop} {P3 : α0 → α1 → Prop} {P4 : α0 → α1 → Prop} (h : ∃ x0 : α0, ∃ x1 : α1, P0 x0 x1 ∧ P1 x0 x1 ∧ P2 x0 x1 ∧ P3 x0 x1 ∧ P4 x0 x1) (k : ∀ x0 : α0, ∀ x1 : α1, P0 x0 x1 → P1 x0 x1 → P2 x0 x1 → P3 x0 x1 → P4 x0 x1 → C) : C := by obtain ⟨x0, x1, p1, p2, p3, p4, pz⟩ := h; exact k x0 x1 p1 p2 p3 p4 pz
theorem el_EEAAEE {C : Prop} {α0 : Sort _} {α1 : Sort _} {P0 : α0 → α1 → Prop} {P1 : α0 → α1 → Prop} {α2 : Sort _} {α3 : Sort _} {P2 : α0 → α1 → α2 → α3 → Prop} (h : ∃ x0 : α0, ∃ x1 : α1, P0 x0 x1 ∧ P1 x0 x1 ∧ ∃ x2 : α2, ∃ x3 : α3, P2 x0 x1 x2 x3) (k : ∀ x0 : α0, ∀ x1 : α1, P0 x0 x1 → P1 x0 x1 → ∀ x2 : α2, ∀ x3 : α3, P2 x0 x1 x2 x3 → C) : C := by obtain ⟨x0, x1, p1, p2, x2, x3, pz⟩ := h; exact k x0 x1 p1 p2 x2 x3 pz
theorem el_EEEEAA {C : Prop} {α0 : Sort _} {α1 : Sort _} {α2 : Sort _} {α3 : Sort _} {P0 : α0 → α1 → α2 → α3 → Prop} {P1 : α0 → α1 → α2 → α3 → Prop} {P2 : α0 → α1 → α2 → α3 → Prop} (h : ∃ x0 : α0, ∃ x1 : α1, ∃ x2 : α2, ∃ x3 : α3, P0 x0 x1 x2 x3 ∧ P1 x0 x1 x2 x3 ∧ P2 x0 x1 x2 x3) (k : ∀ x0 : α0, ∀ x1 : α1, ∀ x2 : α2, ∀ x3 : α3, P0 x0 x1 x2 x3 → P1 x0 x1 x2 x3 → P2 x0 x1 x2 x3 → C) : C := by obtain ⟨x0, x1, x2, x3, p1, p2, pz⟩ := h; exact k x0 x1 x2 x3 p1 p2 pz
theorem el_EEEEEA {C : Prop} {α0 : Sort _} {α1 : Sort _} {α2 : Sort _} {α3 : Sort _} {α4 : Sort _} {P0 : α0 → α1 → α2 → α3 → α4 → Prop} {P1 : α0 → α1 → α2 → α3 → α4 → Prop} (h : ∃ x0 : α0, ∃ x1 : α1, ∃ x2 : α2, ∃ x3 : α3, ∃ x4 : α4, P0 x0 x1 x2 x3 x4 ∧ P1 x0 x1 x2 x3 x4) (k : ∀ x0 : α0, ∀ x1 : α1, ∀ x2 : α2, ∀ x3 : α3, ∀ x4 : α4, P0 x0 x1 x2 x3 x4 → P1 x0 x1 x2 x3 x4 → C) : C := by obtain ⟨x0, x1, x2, x3, x4, p1, pz⟩ := h; exact k x0 x1 x2 x3 x4 p1 pz
theorem el_EEEEEE {C : Prop} {α0 : Sort _} {α1 : Sort _} {α2 : Sort _} {α3 : Sort _} {α4 : Sort _} {α5 : Sort _} {P0 : α0 → α1 → α2 → α3 → α4 → α5 → Prop} (h : ∃ x0 : α0, ∃ x1 : α1, ∃ x2 : α2, ∃ x3 : α3, ∃ x4 : α4, ∃ x5 : α5, P0 x0 x1 x2 x3 x4 x5) (k : ∀ x0 : α0, ∀ x1 : α1, ∀ x2 : α2, ∀ x3 : α3, ∀ x4 : α4, ∀ x5 : α5, P0 x0 x1 x2 x3 x4 x5 → C) : C := by obtain ⟨x0, x1, x2, x3, x4, x5, pz⟩ := h; exact k x0 x1 x2 x3 x4 x5 pz
theorem el_A {C : Prop} {P0 : Prop} {P1 : Prop} (h : P0 ∧ P1) (k : P0 → P1 → C) : C := by obtain ⟨p1, pz⟩ := h; exact k p1 pz
theorem el_E {C : Prop} {α0 : Sort _} {P0 : α0 → Prop} (h : ∃ x0 : α0, P0 x0) (k : ∀ x0 : α0, P0 x0 → C) : C := by obtain ⟨x0, pz⟩ := h; exact k x0 pz
theorem el_AA {C : Prop} {P0 : Prop} {P1 : Prop} {P2 : Prop} (h : P0 ∧ P1 ∧ P2) (k : P0 → P1 → P2 → C) : C := by obtain ⟨p1, p2, pz⟩ := h; exact k p1 p2 pz
theorem el_EA {C : Prop} {α0 : Sort _} {P0 : α0 → Prop} {P1 : α0 → Prop} (h : ∃ x0 : α0, P0 x0 ∧ P1 x0) (k : ∀ x0 : α0, P0 x0 → P1 x0 → C) : C := by obtain ⟨x0, p1, pz⟩ := h; exact k x0 p1 pz
theorem el_EE {C : Prop} {α0 : Sort _} {α1 : Sort _} {P0 : α0 → α1 → Prop} (h : ∃ x0 : α0, ∃ x1 : α1, P0 x0 x1) (k : ∀ x0 : α0, ∀ x1 : α1, P0 x0 x1 → C) : C := by obtain ⟨x0, x1, pz⟩ := h; exact k x0 x1 pz
theorem el_AAA {C : Prop} {P0 : Prop} {P1 : Prop} {P2 : Prop} {P3 : Prop} (h : P0 ∧ P1 ∧ P2 ∧ P3) (k : P0 → P1 → P2 → P3 → C) : C := by obtain ⟨p1, p2, p3, pz⟩ := h; exact k p1 p2 p3 pz
theorem el_AEA {C : Prop} {P0 : Prop} {α0 : Sort _} {P1 : α0 → Prop} {P2 : α0 → Prop} (h : P0 ∧ ∃ x0 : α0, P1 x0 ∧ P2 x0) (k : P0 → ∀ x0 : α0, P1 x0 → P2 x0 → C) : C := by obtain ⟨p1, x0, p2, pz⟩ := h; exact k p1 x0 p2 pz
theorem el_EAA {C : Prop} {α0 : Sort _} {P0 : α0 → Prop} {P1 : α0 → Prop} {P2 : α0 → Prop} (h : ∃ x0 : α0, P0 x0 ∧ P1 x0 ∧ P2 x0) (k : ∀ x0 : α0, P0 x0 → P1 x0 → P2 x0 → C) : C := by obtain ⟨x0, p1, p2, pz⟩ := h; exact k x0 p1 p2 pz
theorem el_EEA {C : Prop} {α0 : Sort _} {α1 : Sort _} {P0 : α0 → α1 → Prop} {P1 : α0 → α1 → Prop} (h : ∃ x0 : α0, ∃ x1 : α1, P0 x0 x1 ∧ P1 x0 x1) (k : ∀ x0 : α0, ∀ x1 : α1, P0 x0 x1 → P1 x0 x1 → C) : C := by obtain ⟨x0, x1, p1, pz⟩ := h; exact k x0 x1 p1 pz
theorem el_EEE {C : Prop} {α0 : Sort _} {α1 : Sort _} {α2 : Sort _} {P0 : α0 → α1 → α2 → Prop} (h : ∃ x0 : α0, ∃ x1 : α1, ∃ x2 : α2, P0 x0 x1 x2) (k : ∀ x0 : α0, ∀ x1 : α1, ∀ x2 : α2, P0 x0 x1 x2 → C) : C := by obtain ⟨x0, x1, x2, pz⟩ := h; exact k x0 x1 x2 pz
theorem el_AAAA {C : Prop} {P0 : Prop} {P1 : Prop} {P2 : Prop} {P3 : Prop} {P4 : Prop} (h : P0 ∧ P1 ∧ P2 ∧ P3 ∧ P4) (k : P0 → P1 → P2 → P3 → P4 → C) : C := by obtain ⟨p1, p2, p3, p4, pz⟩ := h; exact k p1 p2 p3 p4 pz
theorem el_AEEA {C : Prop} {P0 : Prop} {α0 : Sort _} {α1 : Sort _} {P1 : α0 → α1 → Prop} {P2 : α0 → α1 → Prop} (h : P0 ∧ ∃ x0 : α0, ∃ x1 : α1, P1 x0 x1 ∧ P2 x0 x1) (k : P0 → ∀ x0 : α0, ∀ x1 : α1, P1 x0 x1 → P2 x0 x1 → C) : C := by obtain ⟨p1, x0, x1, p2, pz⟩ := h; exact k p1 x0 x1 p2 pz
theorem el_EAAA {C : Prop} {α0 : Sort _} {P0 : α0 → Prop} {P1 : α0 → Prop} {P2 : α0 → Prop} {P3 : α0 → Prop} (h : ∃ x0 : α0, P0 x0 ∧ P1 x0 ∧ P2 x0 ∧ P3 x0) (k : ∀ x0 : α0, P0 x0 → P1 x0 → P2 x0 → P3 x0 → C) : C := by obtain ⟨x0, p1, p2, p3, pz⟩ := h; exact k x0 p1 p2 p3 pz
theorem el_EAAE {C : Prop} {α0 : Sort _} {P0 : α0 → Prop} {P1 : α0 → Prop} {α1 : Sort _} {P2 : α0 → α1 → Prop} (h : ∃ x0 : α0, P0 x0 ∧ P1 x0 ∧ ∃ x1 : α1, P2 x0 x1) (k : ∀ x0 : α0, P0 x0 → P1 x0 → ∀ x1 : α1, P2 x0 x1 → C) : C := by obtain ⟨x0, p1, p2, x1, pz⟩ := h; exact k x0 p1 p2 x1 pz
theorem el_EEAA {C : Prop} {α0 : Sort _} {α1 : Sort _} {P0 : α0 → α1 → Prop} {P1 : α0 → α1 → Prop} {P2 : α0 → α1 → Prop} (h : ∃ x0 : α0, ∃ x1 : α1, P0 x0 x1 ∧ P1 x0 x1 ∧ P2 x0 x1) (k : ∀ x0 : α0, ∀ x1 : α1, P0 x0 x1 → P1 x0 x1 → P2 x0 x1 → C) : C := by obtain ⟨x0, x1, p1, p2, pz⟩ := h; exact k x0 x1 p1 p2 pz
theorem el_EEEA {C : Prop} {α0 : Sort _} {α1 : Sort _} {α2 : Sort _} {P0 : α0 → α1 → α2 → Prop} {P1 : α0 → α1 → α2 → Prop} (h : ∃ x0 : α0, ∃ x1 : α1, ∃ x2 : α2, P0 x0 x1 x2 ∧ P1 x0 x1 x2) (k : ∀ x0 : α0, ∀ x1 : α1, ∀ x2 : α2, P0 x0 x1 x2 → P1 x0 x1 x2 → C) : C := by obtain ⟨x0, x1, x2, p1, pz⟩ := h; exact k x0 x1 x2 p1 pz
theorem el_AEEAA {C : Prop} {P0 : Prop} {α0 : Sort _} {α1 : Sort _} {P1 : α0 → α1 → Prop} {P2 : α0 → α1 → Prop} {P3 : α0 → α1 → Prop} (h : P0 ∧ ∃ x0 : α0, ∃ x1 : α1, P1 x0 x1 ∧ P2 x0 x1 ∧ P3 x0 x1) (k : P0 → ∀ x0 : α0, ∀ x1 : α1, P1 x0 x1 → P2 x0 x1 → P3 x0 x1 → C) : C := by obtain ⟨p1, x0, x1, p2, p3, pz⟩ := h; exact k p1 x0 x1 p2 p3 pz
theorem el_EEAAA {C : Prop} {α0 : Sort _} {α1 : Sort _} {P0 : α0 → α1 → Prop} {P1 : α0 → α1 → Prop} {P2 : α0 → α1 → Prop} {P3 : α0 → α1 → Prop} (h : ∃ x0 : α0, ∃ x1 : α1, P0 x0 x1 ∧ P1 x0 x1 ∧ P2 x0 x1 ∧ P3 x0 x1) (k : ∀ x0 : α0, ∀ x1 : α1, P0 x0 x1 → P1 x0 x1 → P2 x0 x1 → P3 x0 x1 → C) : C := by obtain ⟨x0, x1, p1, p2, p3, pz⟩ := h; exact k x0 x1 p1 p2 p3 pz
theorem el_EEEAA {C : Prop} {α0 : Sort _} {α1 : Sort _} {α2 : Sort _} {P0 : α0 → α1 → α2 → Prop} {P1 : α0 → α1 → α2 → Prop} {P2 : α0 → α1 → α2 → Prop} (h : ∃ x0 : α0, ∃ x1 : α1, ∃ x2 : α2, P0 x0 x1 x2 ∧ P1 x0 x1 x2 ∧ P2 x0 x1 x2) (k : ∀ x0 : α0, ∀ x1 : α1, ∀ x2 : α2, P0 x0 x1 x2 → P1 x0 x1 x2 → P2 x0 x1 x2 → C) : C := by obtain ⟨x0, x1, x2, p1, p2, pz⟩ := h; exact k x0 x1 x2 p1 p2 pz
theorem el_AAAAAA {C : Prop} {P0 : Prop} {P1 : Prop} {P2 : Prop} {P3 : Prop} {P4 : Prop} {P5 : Prop} {P6 : Prop} (h : P0 ∧ P1 ∧ P2 ∧ P3 ∧ P4 ∧ P5 ∧ P6) (k : P0 → P1 → P2 → P3 → P4 → P5 → P6 → C) : C := by obtain ⟨p1, p2, p3, p4, p5, p6, pz⟩ := h; exact k p1 p2 p3 p4 p5 p6 pz
theorem el_EEAEAA {C : Prop} {α0 : Sort _} {α1 : Sort _} {P0 : α0 → α1 → Prop} {α2 : Sort _} {P1 : α0 → α1 → α2 → Prop} {P2 : α0 → α1 → α2 → Prop} {P3 : α0 → α1 → α2 → Prop} (h : ∃ x0 : α0, ∃ x1 : α1, P0 x0 x1 ∧ ∃ x2 : α2, P1 x0 x1 x2 ∧ P2 x0 x1 x2 ∧ P3 x0 x1 x2) (k : ∀ x0 : α0, ∀ x1 : α1, P0 x0 x1 → ∀ x2 : α2, P1 x0 x1 x2 → P2 x0 x1 x2 → P3 x0 x1 x2 → C) : C := by obtain ⟨x0, x1, p1, x2, p2, p3, pz⟩ := h; exact k x0 x1 p1 x2 p2 p3 pz
theorem el_EEEAAA {C : Prop} {α0 : Sort _} {α1 : Sort _} {α2 : Sort _} {P0 : α0 → α1 → α2 → Prop} {P1 : α0 → α1 → α2 → Prop} {P2 : α0 → α1 → α2 → Prop} {P3 : α0 → α1 → α2 → Prop} (h : ∃ x0 : α0, ∃ x1 : α1, ∃ x2 : α2, P0 x0 x1 x2 ∧ P1 x0 x1 x2 ∧ P2 x0 x1 x2 ∧ P3 x0 x1 x2) (k : ∀ x0 : α0, ∀ x1 : α1, ∀ x2 : α2, P0 x0 x1 x2 → P1 x0 x1 x2 → P2 x0 x1 x2 → P3 x0 x1 x2 → C) : C := by obtain ⟨x0, x1, x2, p1, p2, p3, pz⟩ := h; exact k x0 x1 x2 p1 p2 p3 pz
theorem el_EEEAAAA {C : Prop} {α0 : Sort _} {α1 : Sort _} {α2 : Sort _} {P0 : α0 → α1 → α2 → Prop} {P1 : α0 → α1 → α2 → Prop} {P2 : α0 → α1 → α2 → Prop} {P3 : α0 → α1 → α2 → Prop} {P4 : α0 → α1 → α2 → Prop} (h : ∃ x0 : α0, ∃ x1 : α1, ∃ x2 : α2, P0 x0 x1 x2 ∧ P1 x0 x1 x2 ∧ P2 x0 x1 x2 ∧ P3 x0 x1 x2 ∧ P4 x0 x1 x2) (k : ∀ x0 : α0, ∀ x1 : α1, ∀ x2 : α2, P0 x0 x1 x2 → P1 x0 x1 x2 → P2 x0 x1 x2 → P3 x0 x1 x2 → P4 x0 x1 x2 → C) : C := by obtain ⟨x0, x1, x2, p1, p2, p3, p4, pz⟩ := h; exact k x0 x1 x2 p1 p2 p3 p4 pz
noncomputable def EwAt (e : Expr) : EW → Prop
  | .name x => ∃ p, e = .Name x p
  | .tup es => ∃ k p, e = .Tuple es k p
  | .attr o n => ∃ p, e = .Attribute o n p
  | .sub o i => ∃ p, e = .Subscript o i p
  | .call f as ks => ∃ p, e = .Call f as ks p
  | .other => True
theorem ew_at (e : Expr) : EwAt e (ew e) := by cases e <;> first | exact ⟨_, rfl⟩ | exact ⟨_, _, rfl⟩ | trivial
theorem ew_e {e : Expr} {u : EW} (h : ew e = u) : EwAt e u := h ▸ ew_at e
theorem nameOf_e {e : Expr} {x : Str} (h : nameOf e = some x) : ∃ p, e = .Name x p := by
  unfold nameOf at h
  cases q : ew e with
  | name y => rw [q] at h; cases h; exact ew_e q
  | _ => rw [q] at h; cases h
theorem qfn {chk : M Unit} {step : V → Rho → M (Fl × Rho)} {ρ : Rho} : forM' chk step [] ρ = pure (.next, ρ) := rfl
theorem qfo {chk : M Unit} {step : V → Rho → M (Fl × Rho)} {v : V} {vs : List V} {ρ : Rho} : forM' chk step (v :: vs) ρ = (do
    let r ← step v ρ
    match r.1 with
    | .next => do chk; forM' chk step vs r.2
    | .brk => pure (.next, r.2)
    | .ret w => pure (.ret w, r.2)) := rfl
theorem qcn {chk : M Unit} {step : V → List V × Rho → M (List V × Rho)} {p : List V × Rho} : compM chk step [] p = pure p := rfl
theorem qco {chk : M Unit} {step : V → List V × Rho → M (List V × Rho)} {v : V} {vs : List V} {p : List V × Rho} : compM chk step (v :: vs) p = (do
    let q ← step v p
    chk
    compM chk step vs q) := rfl
theorem qwh {test : Rho → M Bool} {body : Rho → M (Fl × Rho)} {n : Nat} {ρ : Rho} : whileM test body (n + 1) ρ = (do
    if ← test ρ then do
      let r ← body ρ
      match r.1 with
      | .next => whileM test body n r.2
      | .brk => pure (.next, r.2)
      | .ret w => pure (.ret w, r.2)
    else pure (.next, ρ)) := rfl
theorem qpn {n : Str} {v : V} : putField n v [] = [(n, v)] := rfl
theorem qpf {n k : Str} {v w : V} {r : List (Str × V)} : putField n v ((k, w) :: r) = if k == n then (k, v) :: r else (k, w) :: putField n v r := rfl
theorem qnd {x : Str} {r : List Str} : nodupB (x :: r) = (!r.contains x && nodupB r) := rfl
theorem qiz {x y : Int} {r : List Int} : insertZ x (y :: r) = if x < y then x :: y :: r else if x = y then y :: r else y :: insertZ x r := rfl
theorem mem_insertZ {x y : Int} {xs : List Int} : y ∈ insertZ x xs ↔ y = x ∨ y ∈ xs := by
  induction xs with
  | nil => exact List.mem_cons
  | cons z r ih =>
    rw [qiz]
    by_cases h1 : x < z
    · rw [if_pos h1]; exact List.mem_cons
    · rw [if_neg h1]
      by_cases h2 : x = z
      · rw [if_pos h2, List.mem_cons, h2]; exact or_self_left.symm
      · rw [if_neg h2, List.mem_cons, List.mem_cons, ih]; exact or_left_comm
theorem len_insertZ {x : Int} {xs : List Int} : (insertZ x xs).length ≤ xs.length + 1 := by
  induction xs with
  | nil => exact Nat.le_refl _
  | cons z r ih =>
    rw [qiz]
    by_cases h1 : x < z
    · rw [if_pos h1]; exact Nat.le_refl _
    · rw [if_neg h1]
      by_cases h2 : x = z
      · rw [if_pos h2]; exact Nat.le_succ _
      · rw [if_neg h2]; exact Nat.succ_le_succ ih
theorem srt_insertZ {x : Int} {xs : List Int} (h : xs.Pairwise (· < ·)) : (insertZ x xs).Pairwise (· < ·) := by
  induction xs with
  | nil => exact List.pairwise_singleton _ _
  | cons z r ih =>
    have hz := List.pairwise_cons.mp h
    rw [qiz]
    by_cases h1 : x < z
    · rw [if_pos h1]; exact List.pairwise_cons.mpr ⟨fun b hb => (List.mem_cons.mp hb).elim (fun e => e ▸ h1) fun q => Int.lt_trans h1 (hz.1 b q), h⟩
    · rw [if_neg h1]
      by_cases h2 : x = z
      · rw [if_pos h2]; exact h
      · rw [if_neg h2]; exact List.pairwise_cons.mpr ⟨fun b hb => (mem_insertZ.mp hb).elim (fun e => e ▸ Int.lt_iff_le_and_ne.mpr ⟨Int.not_lt.mp h1, Ne.symm h2⟩) (hz.1 b), ih hz.2⟩
theorem mem_sortedSet {y : Int} {xs : List Int} : y ∈ sortedSet xs ↔ y ∈ xs := by
  induction xs with
  | nil => exact Iff.rfl
  | cons z r ih => exact mem_insertZ.trans ((or_congr_right ih).trans List.mem_cons.symm)
theorem srt_sortedSet {xs : List Int} : (sortedSet xs).Pairwise (· < ·) := by
  induction xs with
  | nil => exact List.Pairwise.nil
  | cons z r ih => exact srt_insertZ ih
theorem srt_ext {a : List Int} : ∀ {b : List Int}, a.Pairwise (· < ·) → b.Pairwise (· < ·) → (∀ x, x ∈ a ↔ x ∈ b) → a = b := by
  induction a with
  | nil =>
    intro b _ _ h
    cases b with
    | nil => rfl
    | cons y b => exact (List.not_mem_nil ((h y).mpr List.mem_cons_self)).elim
  | cons x a ih =>
    intro b ha hb h
    cases b with
    | nil => exact (List.not_mem_nil ((h x).mp List.mem_cons_self)).elim
    | cons y b =>
      have ha' := List.pairwise_cons.mp ha
      have hb' := List.pairwise_cons.mp hb
      have hxy : x = y := (List.mem_cons.mp ((h x).mp List.mem_cons_self)).elim id fun p => (List.mem_cons.mp ((h y).mpr List.mem_cons_self)).elim Eq.symm fun q => (Int.lt_irrefl _ (Int.lt_trans (hb'.1 _ p) (ha'.1 _ q))).elim
      subst hxy
      exact congrArg _ (ih ha'.2 hb'.2 fun z => ⟨fun hz => (List.mem_cons.mp ((h z).mp (List.mem_cons_of_mem _ hz))).elim (fun e => (Int.ne_of_lt (ha'.1 z hz) e.symm).elim) id, fun hz => (List.mem_cons.mp ((h z).mpr (List.mem_cons_of_mem _ hz))).elim (fun e => (Int.ne_of_lt (hb'.1 z hz) e.symm).elim) id⟩)
section
variable {P : Prm} {cf : CF} {sc : Scope} {ρ : Rho}
theorem q1 {k : Nat} {pos : Pos} : ev P cf sc ρ (.Constant .none k pos) = pure .none := rfl
theorem q2 {k : Nat} {pos : Pos} {b : Bool} : ev P cf sc ρ (.Constant (.bool b) k pos) = pure (.bool b) := rfl
theorem q3 {k : Nat} {pos : Pos} {i : Int} : ev P cf sc ρ (.Constant (.int i) k pos) = pure (.int i) := rfl
theorem q4 {k : Nat} {pos : Pos} {s : Str} : ev P cf sc ρ (.Constant (.str s) k pos) = pure (.str s) := rfl
theorem q6 {x : Str} {pos : Pos} : ev P cf sc ρ (.Name x pos) = need (ρ x) := rfl
theorem q7 {op : BoolOp} {vs : List Expr} {pos : Pos} : ev P cf sc ρ (.BoolOp op vs pos) = evB P cf sc ρ op vs := rfl
theorem q8 {l r : Expr} {op : Operator} {pos : Pos} : ev P cf sc ρ (.BinOp l op r pos) = (do let a ← ev P cf sc ρ l; let b ← ev P cf sc ρ r; binV (P.tr pos) op a b) := rfl
theorem q9 {op : UnaryOp} {x : Expr} {pos : Pos} : ev P cf sc ρ (.UnaryOp op x pos) = (do
    let v ← ev P cf sc ρ x
    match op with
    | .Not => do
      let b ← truth v
      pure (.bool (!b))
    | .USub => (match v with | .int i => pure (.int (-i)) | _ => fail)
    | _ => fail) := rfl
theorem q10 {t a b : Expr} {pos : Pos} : ev P cf sc ρ (.IfExp t a b pos) = (do let c ← tst P cf sc ρ t (ev P cf sc ρ t); if c then ev P cf sc ρ a else ev P cf sc ρ b) := rfl
theorem q11 {pos : Pos} : ev P cf sc ρ (.Dict [] [] pos) = (do let l ← newObj (.dict 0); pure (.ref l)) := rfl
theorem q13 {es : List Expr} {pos : Pos} : ev P cf sc ρ (.List es pos) = (do let vs ← evs P cf sc ρ es; mkList (P.tr pos) vs) := rfl
theorem q14 {es : List Expr} {k : Nat} {pos : Pos} : ev P cf sc ρ (.Tuple es k pos) = (do let vs ← evs P cf sc ρ es; check (decide (vs.length ≤ lim)); pure (.tup vs)) := rfl
theorem q15 {elt : Expr} {gens : List Comprehension} {scope : Scope} {pos : Pos} : ev P cf sc ρ (.ListComp elt gens scope pos) = (do
    check (scopeOk scope && freesOk sc scope && !gens.isEmpty && gens.all fun g => g.is_async == 0)
    let r ← evG P cf sc ρ scope (fun p => do
      let v ← ev P cf scope p.2 elt
      check (decide (p.1.length < lim))
      pure (p.1 ++ [v], p.2)) gens true ([], compRho scope ρ)
    mkList (P.tr pos) r.1) := rfl
theorem q16 {l : Expr} {ops : List CmpOp} {cs : List Expr} {pos : Pos} : ev P cf sc ρ (.Compare l ops cs pos) = (do let a ← ev P cf sc ρ l; let b ← evC P cf sc ρ a ops cs; pure (.bool b)) := rfl
theorem q17 {o : Expr} {n : Str} {pos : Pos} : ev P cf sc ρ (.Attribute o n pos) = (if isSuper o then fail else do let v ← ev P cf sc ρ o; attrV v n) := rfl
theorem q17f {o : Expr} {n : Str} {pos : Pos} (h : isSuper o = false) : ev P cf sc ρ (.Attribute o n pos) = (do let v ← ev P cf sc ρ o; attrV v n) := q17.trans (if_neg (h ▸ Bool.false_ne_true))
theorem q18 {o h : Expr} {pos pos1 : Pos} : ev P cf sc ρ (.Subscript o (.Slice none (some h) none pos1) pos) = (do let v ← ev P cf sc ρ o; let h ← ev P cf sc ρ h; sliceV v none (some h)) := rfl
theorem q19 {o l : Expr} {pos pos1 : Pos} : ev P cf sc ρ (.Subscript o (.Slice (some l) none none pos1) pos) = (do let v ← ev P cf sc ρ o; let l ← ev P cf sc ρ l; sliceV v (some l) none) := rfl
theorem q21f {o i : Expr} {pos : Pos} (h : isSlice i = false) : ev P cf sc ρ (.Subscript o i pos) = (do let v ← ev P cf sc ρ o; let k ← ev P cf sc ρ i; idxV v k) := by
  cases i <;> first | rfl | cases h
theorem q22 {args : List Expr} {pos apos : Pos} {o : Expr} {n : Str} : ev P cf sc ρ (.Call (.Attribute o n apos) args [] pos) = (if isSuper o then fail
      else do
        let v ← ev P cf sc ρ o
        check (decide (apos.endLine = pos.line) && decide (args.length < 29))
        methV v n
        let vs ← evs P cf sc ρ args
        match v with
        | .inst c _ => cf (some c, n) (v :: vs)
        | v => callL n v vs) := rfl
theorem q22f {args : List Expr} {pos apos : Pos} {o : Expr} {n : Str} (h : isSuper o = false) : ev P cf sc ρ (.Call (.Attribute o n apos) args [] pos) = (do
        let v ← ev P cf sc ρ o
        check (decide (apos.endLine = pos.line) && decide (args.length < 29))
        methV v n
        let vs ← evs P cf sc ρ args
        match v with
        | .inst c _ => cf (some c, n) (v :: vs)
        | v => callL n v vs) := q22.trans (if_neg (h ▸ Bool.false_ne_true))
theorem q25e {f : Str} {args : List Expr} {pos pos1 : Pos} {c1 c2 : Bool} (e1 : (f == ("tuple" : Str) && calledWithin sc ("zip" : Str) 2 args) = c1) (e2 : (f == ("sorted" : Str) && calledWithin sc ("set" : Str) 1 args) = c2) {Z : M V} (hZ : (do let vs ← evs P cf sc ρ args; callN P cf sc f vs) = Z) :
    ∃ X Y, ev P cf sc ρ (.Call (.Name f pos1) args [] pos) = (if c1 then X else if c2 then Y else Z) := by
  subst e1 e2 hZ
  rcases args with _ | ⟨a, r⟩
  · exact ⟨_, _, rfl⟩
  · cases a with
    | Call g as ks p => rcases r with _ | ⟨b, r⟩ <;> rcases as with _ | ⟨x, _ | ⟨y, _ | ⟨z, s⟩⟩⟩ <;> exact ⟨_, _, rfl⟩
    | _ => exact ⟨_, _, rfl⟩
theorem q25f {f : Str} {args : List Expr} {pos pos1 : Pos} (h1 : (f == ("tuple" : Str) && calledWithin sc ("zip" : Str) 2 args) = false) (h2 : (f == ("sorted" : Str) && calledWithin sc ("set" : Str) 1 args) = false) :
    ev P cf sc ρ (.Call (.Name f pos1) args [] pos) = (do let vs ← evs P cf sc ρ args; callN P cf sc f vs) :=
  let ⟨_, _, e⟩ := q25e h1 h2 rfl
  e
theorem q23 {f : Str} {g a b : Expr} {ks : List Keyword} {pos pos1 pos2 : Pos} (h : (f == ("tuple" : Str) && calledWithin sc ("zip" : Str) 2 [.Call g [a, b] ks pos2]) = true) :
    ev P cf sc ρ (.Call (.Name f pos1) [.Call g [a, b] ks pos2] [] pos) = (do
          check (isGlob sc f)
          let x ← ev P cf sc ρ a
          let y ← ev P cf sc ρ b
          zipV x y) := if_pos h
theorem q24 {f : Str} {g a : Expr} {ks : List Keyword} {pos pos1 pos2 : Pos} (h1 : (f == ("tuple" : Str) && calledWithin sc ("zip" : Str) 2 [.Call g [a] ks pos2]) = false) (h : (f == ("sorted" : Str) && calledWithin sc ("set" : Str) 1 [.Call g [a] ks pos2]) = true) :
    ev P cf sc ρ (.Call (.Name f pos1) [.Call g [a] ks pos2] [] pos) = (do
          check (isGlob sc f)
          let x ← ev P cf sc ρ a
          sortedSetV x) := (if_neg fun q => Bool.false_ne_true (h1.symm.trans q)).trans (if_pos h)
theorem qkw {f : Expr} {args : List Expr} {ks : List Keyword} {pos : Pos} (h : ks ≠ []) : ev P cf sc ρ (.Call f args ks pos) = fail := by
  cases ks with
  | nil => exact absurd rfl h
  | cons a b => cases f <;> rfl
theorem qs1 : evs P cf sc ρ [] = pure [] := rfl
theorem qs2 {e : Expr} {r : List Expr} : evs P cf sc ρ (e :: r) = (do let v ← ev P cf sc ρ e; let vs ← evs P cf sc ρ r; pure (v :: vs)) := rfl
theorem qB1 {op : BoolOp} : evB P cf sc ρ op [] = fail := rfl
theorem qB2 {op : BoolOp} {e : Expr} {r : List Expr} : evB P cf sc ρ op (e :: r) = (do
    let v ← ev P cf sc ρ e
    if r.isEmpty then pure v else do
    let t ← truth v
    match op, t with
    | .And, false | .Or, true => pure v
    | _, _ => evB P cf sc ρ op r) := rfl
theorem qC1 {a : V} {op : CmpOp} {ops : List CmpOp} {e : Expr} {r : List Expr} : evC P cf sc ρ a (op :: ops) (e :: r) = (do
    let b ← ev P cf sc ρ e
    let c ← cmpV op a b
    if ops.isEmpty && r.isEmpty then pure c
    else if c then evC P cf sc ρ b ops r else pure false) := rfl
theorem qt1 {x : Expr} {pos : Pos} {m : M V} : tst P cf sc ρ (.UnaryOp .Not x pos) m = (do let b ← tst P cf sc ρ x (ev P cf sc ρ x); pure (!b)) := rfl
theorem qt3 {op : BoolOp} {vs : List Expr} {pos : Pos} {m : M V} : tst P cf sc ρ (.BoolOp op vs pos) m = tstB P cf sc ρ op vs := rfl
theorem qt4 {a b c : Expr} {pos : Pos} {m : M V} : tst P cf sc ρ (.IfExp a b c pos) m = fail := rfl
theorem qt5 {l : Expr} {ops : List CmpOp} {cs : List Expr} {pos : Pos} {m : M V} : tst P cf sc ρ (.Compare l ops cs pos) m = (do let a ← ev P cf sc ρ l; evC P cf sc ρ a ops cs) := rfl
theorem qt6 {x : Str} {pos : Pos} {m : M V} : tst P cf sc ρ (.Name x pos) m = (do let v ← m; truth v) := rfl
theorem qt7 {f : Expr} {as : List Expr} {ks : List Keyword} {pos : Pos} {m : M V} : tst P cf sc ρ (.Call f as ks pos) m = (do let v ← m; truth v) := rfl
theorem qt8 {o : Expr} {n : Str} {pos : Pos} {m : M V} : tst P cf sc ρ (.Attribute o n pos) m = (do let v ← m; truth v) := rfl
theorem qtB1 {op : BoolOp} : tstB P cf sc ρ op [] = pure (op == .And) := rfl
theorem qtB2 {op : BoolOp} {e : Expr} {r : List Expr} : tstB P cf sc ρ op (e :: r) = (do
    let t ← tst P cf sc ρ e (ev P cf sc ρ e)
    match op, t with
    | .And, false => pure false
    | .Or, true => pure true
    | _, _ => tstB P cf sc ρ op r) := rfl
theorem qtA1 : tstAll P cf sc ρ [] = pure true := rfl
theorem qtA2 {e : Expr} {r : List Expr} : tstAll P cf sc ρ (e :: r) = (do let t ← tst P cf sc ρ e (ev P cf sc ρ e); if t then tstAll P cf sc ρ r else pure false) := rfl
theorem qG1 {scope : Scope} {emit : List V × Rho → M (List V × Rho)} {first : Bool} {p : List V × Rho} : evG P cf sc ρ scope emit [] first p = emit p := rfl
theorem qG2 {scope : Scope} {emit : List V × Rho → M (List V × Rho)} {first : Bool} {p : List V × Rho} {t iter : Expr} {ifs : List Expr} {asy : Int} {rest : List Comprehension} : evG P cf sc ρ scope emit (⟨t, iter, ifs, asy⟩ :: rest) first p = (do
    check (asy == 0)
    let x ← (if first then ev P cf sc ρ iter else ev P cf scope p.2 iter)
    let w ← walkV x
    compM (still w.1 w.2) (fun v q => do
      let ρ' ← asgT scope t v q.2
      let ok ← tstAll P cf scope ρ' ifs
      if ok then evG P cf sc ρ scope emit rest false (q.1, ρ') else pure (q.1, ρ')) w.1 p) := rfl
theorem qx1 {e : Expr} {pos : Pos} : ex P cf sc ρ (.Expr e pos) = (do check (notComp e); let _ ← ev P cf sc ρ e; pure (.next, ρ)) := rfl
theorem qx2 {pos : Pos} : ex P cf sc ρ (.Pass pos) = pure (.next, ρ) := rfl
theorem qx3 {pos : Pos} : ex P cf sc ρ (.Break pos) = pure (.brk, ρ) := rfl
theorem qx4 {v : Option Expr} {pos : Pos} : ex P cf sc ρ (.Return v pos) = (do let v ← evOpt P cf sc ρ v; pure (.ret v, ρ)) := rfl
theorem qx5 {t value : Expr} {pos : Pos} : ex P cf sc ρ (.Assign [t] value pos) = (do check (swapFine t value); let v ← ev P cf sc ρ value; let ρ' ← asg P cf sc ρ t v; pure (.next, ρ')) := rfl
theorem qx6 {t : Expr} {body orelse : List Stmt} {pos : Pos} : ex P cf sc ρ (.If t body orelse pos) = (do let c ← tst P cf sc ρ t (ev P cf sc ρ t); if c then exs P cf sc ρ body else exs P cf sc ρ orelse) := rfl
theorem qx7 {t : Expr} {body : List Stmt} {pos : Pos} : ex P cf sc ρ (.While t body [] pos) = whileM (fun ρ => tst P cf sc ρ t (ev P cf sc ρ t)) (fun ρ => exs P cf sc ρ body) 1000 ρ := rfl
theorem qx8 {t iter : Expr} {body : List Stmt} {pos : Pos} : ex P cf sc ρ (.For t iter body [] pos) = (do
      let x ← ev P cf sc ρ iter
      let w ← walkV x
      forM' (still w.1 w.2) (fun v ρ => do
        let ρ' ← asgT sc t v ρ
        exs P cf sc ρ' body) w.1 ρ) := rfl
theorem qxs1 : exs P cf sc ρ [] = pure (.next, ρ) := rfl
theorem qxs2 {s : Stmt} {r : List Stmt} : exs P cf sc ρ (s :: r) = (do
    let p ← ex P cf sc ρ s
    match p.1 with
    | .next => exs P cf sc p.2 r
    | f => pure (f, p.2)) := rfl
theorem qa1 {x : Str} {pos : Pos} {v : V} : asgT sc (.Name x pos) v ρ = (do check (isOwn sc x); pure (upd ρ x v)) := rfl
theorem qa2 {ts : List Expr} {k : Nat} {pos : Pos} {v : V} : asgT sc (.Tuple ts k pos) v ρ = (do
    let xs ← need (namesOf ts)
    match v with
    | .tup vs => do
      check (vs.length == xs.length && xs.all (isOwn sc) && decide xs.Nodup)
      pure (bindAll xs vs ρ)
    | _ => fail) := rfl
theorem qa3 {x : Str} {pos : Pos} {v : V} : asg P cf sc ρ (.Name x pos) v = (do check (isOwn sc x); pure (upd ρ x v)) := rfl
theorem qa4 {ts : List Expr} {k : Nat} {pos : Pos} {v : V} : asg P cf sc ρ (.Tuple ts k pos) v = asgT sc (.Tuple ts k pos) v ρ := rfl
theorem qa5 {o : Expr} {n : Str} {pos : Pos} {v : V} : asg P cf sc ρ (.Attribute o n pos) v = (do let ov ← ev P cf sc ρ o; setAttrV ov n v; pure ρ) := rfl
theorem qa6 {o i : Expr} {pos : Pos} {v : V} : asg P cf sc ρ (.Subscript o i pos) v = (do check (!isSlice i); let ov ← ev P cf sc ρ o; let iv ← ev P cf sc ρ i; setIdxV ov iv v; pure ρ) := rfl
theorem qa6f {o i : Expr} {pos : Pos} {v : V} (h : isSlice i = false) : asg P cf sc ρ (.Subscript o i pos) v = (do let ov ← ev P cf sc ρ o; let iv ← ev P cf sc ρ i; setIdxV ov iv v; pure ρ) := by
  rw [qa6, h]; rfl
theorem qn1 : namesOf [] = some [] := rfl
theorem qn2 {x : Str} {pos : Pos} {r : List Expr} : namesOf (.Name x pos :: r) = (namesOf r).map (x :: ·) := rfl
theorem qo1 : evOpt P cf sc ρ none = pure .none := rfl
theorem qo2 {e : Expr} : evOpt P cf sc ρ (some e) = ev P cf sc ρ e := rfl
theorem qc1 {a b : V} : cmpV .Eq a b = eqV a b := rfl
theorem qc2 {a b : V} : cmpV .NotEq a b = (do pure (!(← eqV a b))) := rfl
theorem qc3 {x y : Int} : cmpV .Lt (.int x) (.int y) = pure (decide (x < y)) := rfl
theorem qc4 {x y : Int} : cmpV .LtE (.int x) (.int y) = pure (decide (x ≤ y)) := rfl
theorem qc5 {x y : Int} : cmpV .Gt (.int x) (.int y) = pure (decide (x > y)) := rfl
theorem qc6 {x y : Int} : cmpV .GtE (.int x) (.int y) = pure (decide (x ≥ y)) := rfl
theorem qc7 : cmpV .Is .none .none = pure true := rfl
theorem qc8 {xs : List V} : cmpV .Is (.tup xs) .none = pure false := rfl
theorem qc9 {x y : Bool} : cmpV .IsNot (.bool x) (.bool y) = pure (x != y) := rfl
theorem qc10 {a b : V} : cmpV .In a b = inV a b := rfl
theorem qc11 {a b : V} : cmpV .NotIn a b = (do pure (!(← inV a b))) := rfl
theorem qtr {b : Bool} : truth (.bool b) = pure b := rfl
theorem qb1 {vs : List V} : bindAll [] vs ρ = ρ := rfl
theorem qb2 {x : Str} {xs : List Str} {v : V} {vs : List V} : bindAll (x :: xs) (v :: vs) ρ = bindAll xs vs (upd ρ x v) := rfl
end
end Mine
end
section
open PySem
namespace Mine
noncomputable def stOf : Stmt → Option (Str × List Stmt × Option Fd)
  | .FunctionDef name args body _ _ _ scope _ _ _ => some (name, [], some ⟨args.args.map (·.arg), body, scope⟩)
  | .ClassDef name _ _ body _ _ _ _ _ _ _ => some (name, body, Option.none)
  | .While _ body _ _ => some ("", body, Option.none)
  | _ => Option.none
noncomputable def fdOf (s : Stmt) : Option (Str × Fd) := (stOf s).bind fun p => p.2.2.map fun d => (p.1, d)
noncomputable def clsOf (s : Stmt) : Option (Str × List (Str × Fd)) := (stOf s).bind fun p => if p.2.2.isNone then some (p.1, p.2.1.filterMap fdOf) else Option.none
noncomputable def topDefs : List (Str × Fd) := PySem.Challenge.pw_pc0032_01.main.body.filterMap fdOf
noncomputable def topClasses : List (Str × List (Str × Fd)) := PySem.Challenge.pw_pc0032_01.main.body.filterMap clsOf
noncomputable def tab : Key → Option Fd
  | (Option.none, n) => topDefs.lookup (if n == ("has_domains" : Str) then ("has" : Str) else n)
  | (some c, n) => (topClasses.lookup c).bind (·.lookup n)
noncomputable def trackedAt : List (Nat × Nat × Nat × Nat) := [(263, 18, 263, 66), (269, 38, 269, 67), (46, 19, 46, 21)]
end Mine
end
section
open PySem PySem.W PyProof.Rows
set_option maxRecDepth 100000
namespace Mine
noncomputable def PlainTup (h : Heap) (a : Addr) (vs : List Value) : Prop := ∃ n, h.get? a = some { cls := .type "tuple", data := .seq vs.toArray n }
noncomputable def PlainLst (h : Heap) (a : Addr) (vs : List Value) : Prop := ∃ n, h.get? a = some { cls := .type "list", data := .seq vs.toArray n }
noncomputable def RangeObj (h : Heap) (a : Addr) (lo hi : Int) : Prop := ∃ t u v, IsRange h a lo hi 1 t u v
noncomputable def InstObj (h : Heap) (a C dx : Addr) : Prop := h.get? a = some { cls := .ref C, dict := some dx, data := .plain }
structure Cx where
  c : Str → Option Addr
  ex : Addr → Prop
noncomputable def Out (cls : Cx) (ι : List Addr) (a : Addr) : Prop := a ∉ ι ∧ ¬ cls.ex a
mutual
noncomputable def Den (cls : Cx) (h : Heap) (ι : List Addr) : V → Value → Prop
  | .none, v => v = .none
  | .bool b, v => v = .bool b
  | .int i, v => ∃ t, v = .int i t
  | .str s, v => ∃ t, v = .str s t
  | .tup xs, v => ∃ a vs, v = .ref a ∧ Out cls ι a ∧ PlainTup h a vs ∧ Dens cls h ι xs vs
  | .lst xs, v => ∃ a vs, v = .ref a ∧ Out cls ι a ∧ PlainLst h a vs ∧ Dens cls h ι xs vs
  | .rng lo hi, v => ∃ a, v = .ref a ∧ Out cls ι a ∧ RangeObj h a lo hi
  | .ref l, v => ∃ a, v = .ref a ∧ ι[l]? = some a
  | .inst c l, v => ∃ a C dx, v = .ref a ∧ Out cls ι a ∧ cls.c c = some C ∧ InstObj h a C dx ∧ ι[l]? = some dx
noncomputable def Dens (cls : Cx) (h : Heap) (ι : List Addr) : List V → List Value → Prop
  | [], vs => vs = []
  | x :: xs, vs => ∃ v r, vs = v :: r ∧ Den cls h ι x v ∧ Dens cls h ι xs r
end
noncomputable def Kp (ι : List Addr) (h h' : Heap) : Prop := ∀ b o, b ∉ ι → h.get? b = some o → h'.get? b = some o
theorem Kp.refl (ι : List Addr) (h : Heap) : Kp ι h h := fun _ _ _ e => e
structure Step (ι ext : List Addr) (h h' : Heap) : Prop where
  keep : Kp ι h h'
  fresh : ∀ a ∈ ext, h.get? a = none
theorem notin_ext {ι ext : List Addr} {h : Heap} {a : Addr} {o : Obj} (hx : ∀ b ∈ ext, h.get? b = none) (ha : a ∉ ι) (e : h.get? a = some o) : a ∉ ι ++ ext := fun q => by
  rcases List.mem_append.mp q with q | q
  · exact ha q
  · rw [hx a q] at e; cases e
theorem out_ext {cls : Cx} {ι ext : List Addr} {h : Heap} {a : Addr} {o : Obj} (hx : ∀ b ∈ ext, h.get? b = none) (ha : Out cls ι a) (e : h.get? a = some o) : Out cls (ι ++ ext) a := ⟨notin_ext hx ha.1 e, ha.2⟩
section
variable {cls : Cx} {h h' : Heap} {ι ext : List Addr}
theorem getI_ext {l : Nat} {a : Addr} (e : ι[l]? = some a) : (ι ++ ext)[l]? = some a := by
  rw [List.getElem?_append_left (by exact (List.getElem?_eq_some_iff.mp e).1)]; exact e
mutual
theorem Den.gen {cls cls' : Cx} {h h' : Heap} {ι ι' : List Addr} (hc : cls'.c = cls.c) (ho : ∀ a o, Out cls ι a → h.get? a = some o → Out cls' ι' a ∧ h'.get? a = some o) (hi : ∀ (l : Nat) a, ι[l]? = some a → ι'[l]? = some a) : ∀ (x : V) (v : Value), Den cls h ι x v → Den cls' h' ι' x v
  | .none, _, d => d
  | .bool _, _, d => d
  | .int _, _, d => d
  | .str _, _, d => d
  | .tup xs, _, ⟨a, vs, e, hn, ⟨n, q⟩, ds⟩ => ⟨a, vs, e, (ho _ _ hn q).1, ⟨n, (ho _ _ hn q).2⟩, Dens.gen hc ho hi xs vs ds⟩
  | .lst xs, _, ⟨a, vs, e, hn, ⟨n, q⟩, ds⟩ => ⟨a, vs, e, (ho _ _ hn q).1, ⟨n, (ho _ _ hn q).2⟩, Dens.gen hc ho hi xs vs ds⟩
  | .rng _ _, _, ⟨a, e, hn, ⟨t, u, w, q⟩⟩ => ⟨a, e, (ho _ _ hn q).1, ⟨t, u, w, (ho _ _ hn q).2⟩⟩
  | .ref _, _, ⟨a, e, q⟩ => ⟨a, e, hi _ _ q⟩
  | .inst _ _, _, ⟨a, C, dx, e, hn, hcc, q, ql⟩ => ⟨a, C, dx, e, (ho _ _ hn q).1, by rw [hc]; exact hcc, (ho _ _ hn q).2, hi _ _ ql⟩
theorem Dens.gen {cls cls' : Cx} {h h' : Heap} {ι ι' : List Addr} (hc : cls'.c = cls.c) (ho : ∀ a o, Out cls ι a → h.get? a = some o → Out cls' ι' a ∧ h'.get? a = some o) (hi : ∀ (l : Nat) a, ι[l]? = some a → ι'[l]? = some a) : ∀ (xs : List V) (vs : List Value), Dens cls h ι xs vs → Dens cls' h' ι' xs vs
  | [], _, d => d
  | x :: xs, _, ⟨v, r, e, d, ds⟩ => ⟨v, r, e, Den.gen hc ho hi x v d, Dens.gen hc ho hi xs r ds⟩
end
theorem Den.step (hk : Kp ι h h') (hx : ∀ b ∈ ext, h.get? b = none) (x : V) (v : Value) (d : Den cls h ι x v) : Den cls h' (ι ++ ext) x v := Den.gen rfl (fun _ _ hn q => ⟨out_ext hx hn q, hk _ _ hn.1 q⟩) (fun _ _ => getI_ext) x v d
theorem Dens.step (hk : Kp ι h h') (hx : ∀ b ∈ ext, h.get? b = none) (xs : List V) (vs : List Value) (d : Dens cls h ι xs vs) : Dens cls h' (ι ++ ext) xs vs := Dens.gen rfl (fun _ _ hn q => ⟨out_ext hx hn q, hk _ _ hn.1 q⟩) (fun _ _ => getI_ext) xs vs d
theorem Den.kp {x : V} {v : Value} (hk : Kp ι h h') (d : Den cls h ι x v) : Den cls h' ι x v := by
  have := Den.step (ext := []) hk (fun _ q => (List.not_mem_nil q).elim) x v d
  rwa [List.append_nil] at this
theorem Dens.kp {x : List V} {v : List Value} (hk : Kp ι h h') (d : Dens cls h ι x v) : Dens cls h' ι x v := by
  have := Dens.step (ext := []) hk (fun _ q => (List.not_mem_nil q).elim) x v d
  rwa [List.append_nil] at this
theorem Dens.length : ∀ {xs : List V} {vs : List Value}, Dens cls h ι xs vs → vs.length = xs.length
  | [], _, d => by rw [show _ = [] from d]; rfl
  | x :: xs, _, ⟨v, r, e, d, ds⟩ => by rw [e, List.length_cons, List.length_cons, Dens.length ds]
theorem Dens.get : ∀ {xs : List V} {vs : List Value} {i : Nat} {x : V}, Dens cls h ι xs vs → xs[i]? = some x → ∃ v, vs[i]? = some v ∧ Den cls h ι x v
  | x :: xs, _, 0, y, ⟨v, r, e, d, ds⟩, q => by simp at q; subst q; exact ⟨v, by rw [e]; rfl, d⟩
  | x :: xs, _, i + 1, y, ⟨v, r, e, d, ds⟩, q => by
    rw [List.getElem?_cons_succ] at q
    refine el_EA (Dens.get ds q) fun v' a b => ?_
    exact ⟨v', by rw [e, List.getElem?_cons_succ]; exact a, b⟩
  | [], _, _, _, _, q => by simp at q
theorem Dens.append : ∀ {xs ys : List V} {vs ws : List Value}, Dens cls h ι xs vs → Dens cls h ι ys ws → Dens cls h ι (xs ++ ys) (vs ++ ws)
  | [], ys, vs, ws, d, q => by rw [show vs = [] from d]; exact q
  | x :: xs, ys, _, ws, ⟨v, r, e, d, ds⟩, q => by rw [e]; exact ⟨v, r ++ ws, rfl, d, Dens.append ds q⟩
theorem Dens.one {x : V} {v : Value} (d : Den cls h ι x v) : Dens cls h ι [x] [v] := ⟨v, [], rfl, d, rfl⟩
theorem Dens.take : ∀ {xs : List V} {vs : List Value} (k : Nat), Dens cls h ι xs vs → Dens cls h ι (xs.take k) (vs.take k)
  | _, _, 0, _ => by simp [Dens]
  | [], vs, k + 1, d => by rw [show vs = [] from d]; simp [Dens]
  | x :: xs, _, k + 1, ⟨v, r, e, d, ds⟩ => by rw [e]; exact ⟨v, r.take k, rfl, d, Dens.take k ds⟩
theorem Dens.drop : ∀ {xs : List V} {vs : List Value} (k : Nat), Dens cls h ι xs vs → Dens cls h ι (xs.drop k) (vs.drop k)
  | _, _, 0, d => by simpa using d
  | [], vs, k + 1, d => by rw [show vs = [] from d]; simp [Dens]
  | x :: xs, _, k + 1, ⟨v, r, e, d, ds⟩ => by rw [e]; exact Dens.drop k ds
theorem Dens.set : ∀ {xs : List V} {vs : List Value} (k : Nat) {x : V} {v : Value}, Dens cls h ι xs vs → Den cls h ι x v → Dens cls h ι (xs.set k x) (vs.set k v)
  | [], vs, k, _, _, d, _ => by rw [show vs = [] from d]; simp [Dens]
  | y :: xs, _, 0, x, v, ⟨w, r, e, d, ds⟩, q => by rw [e]; exact ⟨v, r, rfl, q, ds⟩
  | y :: xs, _, k + 1, x, v, ⟨w, r, e, d, ds⟩, q => by rw [e]; exact ⟨w, r.set k v, rfl, d, Dens.set k ds q⟩
end
noncomputable def ObjAt (cls : Cx) (h : Heap) (ι : List Addr) (a : Addr) : MObj → Prop
  | .list xs => ∃ vs, PlainLst h a vs ∧ Dens cls h ι xs vs
  | .fields fs => h.DictLe a fs.length ∧ ∃ m, h.Ns a m ∧ ∀ n, (match fs.lookup n with | Option.none => m n = Option.none | some x => ∃ v, m n = some v ∧ Den cls h ι x v)
  | .dict n => (∃ f, h.IntMap a f) ∧ h.DictLe a n
theorem ObjAt.get {cls : Cx} {h : Heap} {ι : List Addr} {a : Addr} {o : MObj} (q : ObjAt cls h ι a o) : ∃ ob, h.get? a = some ob := by
  cases o with
  | list xs => obtain ⟨vs, ⟨n, e⟩, _⟩ := q; exact ⟨_, e⟩
  | fields fs => obtain ⟨_, m, ⟨o, _, _, e, _⟩, _⟩ := q; exact ⟨_, e⟩
  | dict n => obtain ⟨⟨f, ⟨o, _, _, e, _⟩⟩, _⟩ := q; exact ⟨_, e⟩
theorem ObjAt.step {cls : Cx} {h h' : Heap} {ι ext : List Addr} {a : Addr} {o : MObj} (q : ObjAt cls h ι a o) (hk : Kp ι h h') (hx : ∀ b ∈ ext, h.get? b = none) (he : ∀ ob, h.get? a = some ob → h'.get? a = some ob) :
    ObjAt cls h' (ι ++ ext) a o := by
  cases o with
  | list xs => obtain ⟨vs, ⟨n, e⟩, ds⟩ := q; exact ⟨vs, ⟨n, he _ e⟩, Dens.step hk hx xs vs ds⟩
  | fields fs =>
    refine el_AEA q fun dl m hn d => ?_
    refine el_EEEA (id hn) fun o₀ _ _ e₀ _ => ?_
    refine in_AEA (dl.of_same e₀ (he _ e₀)) m (hn.at' he) (fun n => ?_)
    have := d n
    split at this
    · exact this
    · rename_i x e; obtain ⟨v, a, b⟩ := this; exact ⟨v, a, Den.step hk hx x v b⟩
  | dict n =>
    obtain ⟨⟨f, ⟨ob, es, ep, e, r⟩⟩, dl⟩ := q
    exact ⟨⟨f, ⟨ob, es, ep, he _ e, r⟩⟩, dl.of_same e (he _ e)⟩
structure Ok (cls : Cx) (h₀ h : Heap) (ι : List Addr) (σ : Sg) : Prop where
  stay : ∀ b o, h₀.get? b = some o → h.get? b = some o
  new : ∀ a ∈ ι, h₀.get? a = none
  nodup : ι.Nodup
  len : ι.length = σ.length
  exs : ∀ a, cls.ex a → (∃ o, h.get? a = some o) ∧ a ∉ ι ∧ h₀.get? a = none
  obj : ∀ (l : Nat) a o, ι[l]? = some a → σ[l]? = some o → ObjAt cls h ι a o
section
variable {cls : Cx} {h₀ h h' : Heap} {ι : List Addr} {σ : Sg}
theorem Ok.has (k : Ok cls h₀ h ι σ) {a : Addr} (ha : a ∈ ι) : ∃ o, h.get? a = some o := by
  obtain ⟨l, hl, e⟩ := List.mem_iff_getElem.mp ha
  have hl' : l < σ.length := by rw [← k.len]; exact hl
  obtain ⟨ob, q⟩ := (k.obj l a σ[l] (by rw [List.getElem?_eq_getElem hl, e]) (List.getElem?_eq_getElem hl')).get
  exact ⟨ob, q⟩
theorem Ok.grow (k : Ok cls h₀ h ι σ) (hk : ∀ b o, h.get? b = some o → h'.get? b = some o) : Ok cls h₀ h' ι σ where
  stay := fun b o e => hk b o (k.stay b o e)
  new := k.new
  nodup := k.nodup
  len := k.len
  exs := fun a ha => let ⟨⟨o, e⟩, r⟩ := k.exs a ha; ⟨⟨o, hk _ _ e⟩, r⟩
  obj := fun l a o e1 e2 => by
    have := (k.obj l a o e1 e2).step (ext := []) (h' := h') (fun b ob _ e => hk b ob e) (fun _ q => (List.not_mem_nil q).elim) (fun ob e => hk _ _ e)
    rwa [List.append_nil] at this
theorem Ok.noneAt (k : Ok cls h₀ h ι σ) {a : Addr} (ha : h.get? a = none) : h₀.get? a = none := by
  cases e : h₀.get? a with
  | none => rfl
  | some o => rw [k.stay _ _ e] at ha; cases ha
theorem get?_size (h : Heap) : h.get? h.objs.size = none := Heap.get?_none_of_le (Nat.le_refl _)
theorem Ok.set (k : Ok cls h₀ h ι σ) {l : Nat} {a : Addr} {o' : MObj} (el : ι[l]? = some a) (hs : Heap.SameBut a h h') (ho : ObjAt cls h' ι a o') : Ok cls h₀ h' ι (σ.set l o') where
  stay := fun b o e => by
    have hb : b ≠ a := fun q => by rw [q, k.new a (List.mem_of_getElem? el)] at e; cases e
    rw [hs.2 b hb]; exact k.stay b o e
  new := k.new
  nodup := k.nodup
  len := by rw [List.length_set]; exact k.len
  exs := fun b hb => let ⟨⟨o, e⟩, r⟩ := k.exs b hb; ⟨⟨o, (hs.2 b fun q => r.1 (q ▸ List.mem_of_getElem? el)).trans e⟩, r⟩
  obj := fun j b o e1 e2 => by
    by_cases hj : j = l
    · subst hj
      have hl : j < σ.length := by rw [← k.len]; exact (List.getElem?_eq_some_iff.mp el).1
      rw [List.getElem?_set_self hl] at e2
      cases e2
      rw [el] at e1; cases e1; exact ho
    · rw [List.getElem?_set_ne (Ne.symm hj)] at e2
      have hb : b ≠ a := fun q => hj ((List.getElem?_inj (List.getElem?_eq_some_iff.mp e1).1 k.nodup).mp (by rw [e1, el, q]))
      have := (k.obj j b o e1 e2).step (ext := []) (h' := h') (fun c ob hc e => (hs.2 c fun q => hc (q ▸ List.mem_of_getElem? el)).trans e) (fun _ q => (List.not_mem_nil q).elim) (fun ob e => (hs.2 b hb).trans e)
      rwa [List.append_nil] at this
theorem Ok.push (k : Ok cls h₀ h ι σ) (hk : ∀ b o, h.get? b = some o → h'.get? b = some o) {a : Addr} {o' : MObj} (ha : h.get? a = none) (ho : ObjAt cls h' (ι ++ [a]) a o') : Ok cls h₀ h' (ι ++ [a]) (σ ++ [o']) where
  stay := fun b o e => hk b o (k.stay b o e)
  new := fun b hb => by
    rcases List.mem_append.mp hb with q | q
    · exact k.new b q
    · rw [List.mem_singleton.mp q]; exact k.noneAt ha
  nodup := by
    refine List.nodup_append.mpr ⟨k.nodup, by simp, fun x hx y hy => ?_⟩
    rw [List.mem_singleton.mp hy]
    intro q
    obtain ⟨o, e⟩ := k.has hx
    rw [q, ha] at e; cases e
  len := by rw [List.length_append, List.length_append, k.len]; rfl
  exs := fun b hb => let ⟨⟨o, e⟩, r⟩ := k.exs b hb; ⟨⟨o, hk _ _ e⟩, (fun q => by
    rcases List.mem_append.mp q with q | q
    · exact r.1 q
    · rw [List.mem_singleton.mp q, ha] at e; cases e), r.2⟩
  obj := fun l b o e1 e2 => by
    by_cases hl : l < ι.length
    · rw [List.getElem?_append_left hl] at e1
      rw [List.getElem?_append_left (by rw [← k.len]; exact hl)] at e2
      exact (k.obj l b o e1 e2).step (fun c ob _ e => hk c ob e) (fun c hc => by rw [List.mem_singleton.mp hc]; exact ha) (fun ob e => hk _ _ e)
    · have hl' : ι.length ≤ l := Nat.not_lt.mp hl
      rw [List.getElem?_append_right hl'] at e1
      rw [List.getElem?_append_right (by rw [← k.len]; exact hl')] at e2
      have e0 : l - ι.length = 0 := by have := (List.getElem?_eq_some_iff.mp e1).1; simp at this; exact Nat.le_antisymm (lin [_] (.h 1 2 (.v 0) (.c 0) (.g 1 0 (.v 0) (.c 0))) rfl this) (lin [_] (.g 1 0 (.c 0) (.v 0)) rfl)
      have e0' : l - σ.length = 0 := by rw [← k.len]; exact e0
      rw [e0] at e1; rw [e0'] at e2
      simp at e1 e2
      subst e1; subst e2; exact ho
end
structure After (cls : Cx) (h₀ : Heap) (ι : List Addr) (s : Shared) (σ' : Sg) (R : Heap → List Addr → Prop) (s' : Shared) : Prop where
  gens : s'.gens = s.gens
  os : s'.os = s.os
  ex : ∃ ext, Step ι ext s.heap s'.heap ∧ Ok cls h₀ s'.heap (ι ++ ext) σ' ∧ R s'.heap (ι ++ ext)
theorem After.elim {C : Prop} {cls : Cx} {h₀ : Heap} {ι : List Addr} {s s' : Shared} {σ' : Sg} {R : Heap → List Addr → Prop} (a : After cls h₀ ι s σ' R s') (k : s'.gens = s.gens → s'.os = s.os → ∀ ext, Step ι ext s.heap s'.heap → Ok cls h₀ s'.heap (ι ++ ext) σ' → R s'.heap (ι ++ ext) → C) : C :=
  let ⟨g, o, ext, st, q, r⟩ := a; k g o ext st q r
section
variable {cls : Cx} {h₀ : Heap} {ι : List Addr} {s s' : Shared} {σ σ' : Sg} {R : Heap → List Addr → Prop}
theorem After.grow (k : Ok cls h₀ s.heap ι σ) {h' : Heap} {g d t o} (hs : s' = ⟨h', g, d, t, o⟩) (hg : g = s.gens) (ho : o = s.os) (hk : ∀ b o, s.heap.get? b = some o → h'.get? b = some o) (hr : R h' ι) :
    After cls h₀ ι s σ R s' := by
  refine eq_l hs ?_
  exact ⟨hg, ho, [], ⟨fun b o _ e => hk b o e, fun _ q => (List.not_mem_nil q).elim⟩, by rw [List.append_nil]; exact k.grow hk, by rw [List.append_nil]; exact hr⟩
theorem After.same (k : Ok cls h₀ s.heap ι σ) (hh : s'.heap = s.heap) (hg : s'.gens = s.gens) (ho : s'.os = s.os) (hr : R s.heap ι) : After cls h₀ ι s σ R s' := by
  obtain ⟨h', g, d, t, o⟩ := s'
  exact After.grow k rfl hg ho (fun b o e => by rw [show h' = s.heap from hh]; exact e) (by rw [show h' = s.heap from hh]; exact hr)
theorem After.trans {ι' : List Addr} {s₁ s₂ : Shared} {ext : List Addr} {R' : Heap → List Addr → Prop} (hg : s₁.gens = s.gens) (ho : s₁.os = s.os) (st : Step ι ext s.heap s₁.heap) (e : ι' = ι ++ ext)
    (b : After cls h₀ ι' s₁ σ' R' s₂) (hR : ∀ h' ext', Step ι (ext ++ ext') s.heap h' → R' h' (ι ++ (ext ++ ext')) → R h' (ι ++ (ext ++ ext'))) : After cls h₀ ι s σ' R s₂ := by
  subst e
  refine b.elim fun g2 o2 ext' st' k' r' => ?_
  have S : Step ι (ext ++ ext') s.heap s₂.heap := by
    refine ⟨fun c ob hc q => st'.keep c ob (notin_ext st.fresh hc q) (st.keep c ob hc q), fun a ha => ?_⟩
    rcases List.mem_append.mp ha with q | q
    · exact st.fresh a q
    · cases e : s.heap.get? a with
      | none => rfl
      | some ob =>
        have hn : a ∉ ι := fun z => (List.nodup_append.mp k'.nodup).2.2 a (List.mem_append_left _ z) a q rfl
        have := st'.fresh a q
        rw [st.keep a ob hn e] at this; cases this
  exact ⟨g2.trans hg, o2.trans ho, ext ++ ext', S, by rw [← List.append_assoc]; exact k', hR _ _ S (by rw [← List.append_assoc]; exact r')⟩
end
end Mine
end
section
open PySem PySem.W PyProof.Rows PySem.Spec
set_option maxRecDepth 100000
namespace Mine
section
variable {α β : Type} {σ σ' : Sg}
theorem bind_iff {m : M α} {f : α → M β} {r : β × Sg} : (m >>= f) σ = some r ↔ ∃ a σ₁, m σ = some (a, σ₁) ∧ f a σ₁ = some r := by
  show (StateT.bind m f) σ = some r ↔ _
  unfold StateT.bind
  cases h : m σ with
  | none => simp
  | some p =>
    obtain ⟨a, σ₁⟩ := p
    constructor
    · intro q; exact ⟨a, σ₁, rfl, q⟩
    · rintro ⟨a', s', e, q⟩; cases e; exact q
theorem pure_iff {a : α} {r : α × Sg} : (pure a : M α) σ = some r ↔ r = (a, σ) := by
  show (StateT.pure a) σ = some r ↔ _
  unfold StateT.pure
  simp [eq_comm]
theorem fail_iff {r : α × Sg} : (fail : M α) σ = some r ↔ False := by simp [fail]
theorem need_iff {o : Option α} {r : α × Sg} : (need o) σ = some r ↔ ∃ a, o = some a ∧ r = (a, σ) := by
  cases o with
  | none => simp [need, fail]
  | some a => simp [need, pure_iff]
theorem check_iff {b : Bool} {r : Unit × Sg} : (check b) σ = some r ↔ b = true ∧ r = ((), σ) := by
  cases b <;> simp [check, fail, pure_iff]
theorem newObj_iff {o : MObj} {r : Nat × Sg} : (newObj o) σ = some r ↔ r = (σ.length, σ ++ [o]) := by simp [newObj, eq_comm]
theorem getObj_iff {l : Nat} {r : MObj × Sg} : (getObj l) σ = some r ↔ ∃ o, σ[l]? = some o ∧ r = (o, σ) := by
  unfold getObj
  cases σ[l]? <;> simp [eq_comm]
theorem setObj_iff {l : Nat} {o : MObj} {r : Unit × Sg} : (setObj l o) σ = some r ↔ l < σ.length ∧ r = ((), σ.set l o) := by
  unfold setObj
  by_cases h : l < σ.length
  · simp [h, eq_comm]
  · simp [h]
theorem bind_e {C : Prop} {m : M α} {f : α → M β} {r : β × Sg} (h : (m >>= f) σ = some r) (k : ∀ a σ₁, m σ = some (a, σ₁) → f a σ₁ = some r → C) : C :=
  let ⟨a, s, x, y⟩ := bind_iff.mp h; k a s x y
theorem check_e {C : Prop} {b : Bool} {f : Unit → M β} {r : β × Sg} (h : (check b >>= f) σ = some r) (k : b = true → f () σ = some r → C) : C :=
  bind_e h fun _ s x y => by obtain ⟨z, q⟩ := check_iff.mp x; cases q; exact k z y
theorem need_e {C : Prop} {o : Option α} {f : α → M β} {r : β × Sg} (h : (need o >>= f) σ = some r) (k : ∀ a, o = some a → f a σ = some r → C) : C :=
  bind_e h fun _ s x y => by obtain ⟨a, z, q⟩ := need_iff.mp x; cases q; exact k _ z y
theorem getObj_e {C : Prop} {l : Nat} {f : MObj → M β} {r : β × Sg} (h : (getObj l >>= f) σ = some r) (k : ∀ o, σ[l]? = some o → f o σ = some r → C) : C :=
  bind_e h fun _ s x y => by obtain ⟨o, z, q⟩ := getObj_iff.mp x; cases q; exact k _ z y
@[elab_as_elim] theorem pure_e {a b : α} {motive : α → Sg → Prop} (h : (pure a : M α) σ = some (b, σ')) (k : motive a σ) : motive b σ' := by
  cases pure_iff.mp h; exact k
end
theorem asInt_e {v : V} {i : Int} (h : asInt v = some i) : v = .int i := by cases v <;> first | exact congrArg V.int (Option.some.inj h) | exact fail_e h
theorem asBool_e {v : V} {i : Bool} (h : asBool v = some i) : v = .bool i := by cases v <;> first | exact congrArg V.bool (Option.some.inj h) | exact fail_e h
theorem asTup_e {v : V} {i : List V} (h : asTup v = some i) : v = .tup i := by cases v <;> first | exact congrArg V.tup (Option.some.inj h) | exact fail_e h
theorem asLst_e {v : V} {i : List V} (h : asLst v = some i) : v = .lst i := by cases v <;> first | exact congrArg V.lst (Option.some.inj h) | exact fail_e h
theorem asRef_e {v : V} {i : Nat} (h : asRef v = some i) : v = .ref i := by cases v <;> first | exact congrArg V.ref (Option.some.inj h) | exact fail_e h
theorem isN_e {v : V} (h : isN v = true) : v = .none := by cases v <;> first | rfl | exact (Bool.false_ne_true h).elim
theorem asSq_e {v : V} {i : List V} (h : asSq v = some i) : v = .tup i ∨ v = .lst i := by cases v <;> first | exact .inl (congrArg V.tup (Option.some.inj h)) | exact .inr (congrArg V.lst (Option.some.inj h)) | exact fail_e h
theorem oList_e {v : MObj} {i : List V} (h : oList v = some i) : v = .list i := by cases v <;> first | exact congrArg MObj.list (Option.some.inj h) | exact fail_e h
theorem oFields_e {v : MObj} {i : List (Str × V)} (h : oFields v = some i) : v = .fields i := by cases v <;> first | exact congrArg MObj.fields (Option.some.inj h) | exact fail_e h
theorem one_e {vs : List V} {v : V} (h : one vs = some v) : vs = [v] := by
  cases vs with
  | nil => exact fail_e h
  | cons a r => cases r with
    | nil => exact congrArg (fun x => [x]) (Option.some.inj h)
    | cons _ _ => exact fail_e h
section
variable {α : Type} {σ : Sg} {r : α × Sg} {C : Prop} {l : Nat}
theorem getList_e {f : List V → M α} (e : (getObj l >>= fun ob => need (oList ob) >>= fun xs => f xs) σ = some r) (k : ∀ xs, σ[l]? = some (.list xs) → f xs σ = some r → C) : C :=
  getObj_e e fun ob q e => need_e e fun xs h e => k xs (oList_e h ▸ q) e
theorem getFields_e {f : List (Str × V) → M α} (e : (getObj l >>= fun ob => need (oFields ob) >>= fun xs => f xs) σ = some r) (k : ∀ xs, σ[l]? = some (.fields xs) → f xs σ = some r → C) : C :=
  getObj_e e fun ob q e => need_e e fun xs h e => k xs (oFields_e h ▸ q) e
end
noncomputable def SeqDen (cls : Cx) (h : Heap) (ι : List Addr) : V → Value → Prop
  | .lst xs, v => ∃ a vs, v = .ref a ∧ PlainLst h a vs ∧ Dens cls h ι xs vs
  | .tup xs, v => ∃ a vs, v = .ref a ∧ PlainTup h a vs ∧ Dens cls h ι xs vs
  | x, v => Den cls h ι x v
section
variable {cls : Cx} {h₀ h : Heap} {ι : List Addr} {σ σ' : Sg} {x y : V} {v : Value}
theorem seqOf_den (k : Ok cls h₀ h ι σ) (d : Den cls h ι x v) (e : seqOf x σ = some (y, σ')) : σ' = σ ∧ SeqDen cls h ι y v := by
  cases x with
  | ref l =>
    refine getList_e e fun xs q e2 => ?_
    refine pure_e e2 ?_
    refine el_EA d fun a hq1_ ha => ?_
    refine eq_l hq1_ ?_
    refine el_EA (k.obj l a _ ha q) fun vs p ds => ?_
    exact in_AEEAA rfl a vs rfl p ds
  | tup xs => exact pure_e e ⟨rfl, el_EEAAA d fun a vs e _ p ds => ⟨a, vs, e, p, ds⟩⟩
  | lst xs => exact pure_e e ⟨rfl, el_EEAAA d fun a vs e _ p ds => ⟨a, vs, e, p, ds⟩⟩
  | _ => exact pure_e e ⟨rfl, d⟩
end
mutual
noncomputable def toPy : V → PyData
  | .none => .none
  | .int i => .int i
  | .tup xs => .tuple (toPys xs)
  | .lst xs => .list (toPys xs)
  | _ => .none
noncomputable def toPys : List V → List PyData
  | [] => []
  | x :: xs => toPy x :: toPys xs
end
section
variable {cls : Cx} {h : Heap} {ι : List Addr}
theorem flat_reads : ∀ (n : Nat),
    (∀ (x : V) (v : Value), flat n x = true → SeqDen cls h ι x v → ∃ as, Reads h v (toPy x) as) ∧
    (∀ (xs : List V) (vs : List Value), xs.all (flat n) = true → Dens cls h ι xs vs → ∃ as, ReadsAll h vs (toPys xs) as) := by
  have lift : ∀ (n : Nat), (∀ (x : V) (v : Value), flat n x = true → SeqDen cls h ι x v → ∃ as, Reads h v (toPy x) as) →
      ∀ (xs : List V) (vs : List Value), xs.all (flat n) = true → Dens cls h ι xs vs → ∃ as, ReadsAll h vs (toPys xs) as := by
    intro n hn xs
    induction xs with
    | nil => intro vs _ d; rw [show vs = [] from d]; exact ⟨_, ReadsAll.nil⟩
    | cons x xs ih =>
      intro vs hf d
      refine el_EEAA d fun v r hq2_ dx ds => ?_
      refine eq_l hq2_ ?_
      simp only [List.all_cons, Bool.and_eq_true] at hf
      have dx' : SeqDen cls h ι x v := by
        cases x with
        | tup xs => obtain ⟨a, vs, e, _, p, ds⟩ := dx; exact ⟨a, vs, e, p, ds⟩
        | lst xs => obtain ⟨a, vs, e, _, p, ds⟩ := dx; exact ⟨a, vs, e, p, ds⟩
        | _ => exact dx
      obtain ⟨as, q⟩ := hn x v hf.1 dx'
      obtain ⟨bs, p⟩ := ih r hf.2 ds
      exact ⟨_, ReadsAll.cons q p⟩
  have base : ∀ (n : Nat) (x : V) (v : Value), flat n x = true → (∀ xs, x ≠ .tup xs) → (∀ xs, x ≠ .lst xs) → SeqDen cls h ι x v → ∃ as, Reads h v (toPy x) as := by
    intro n x v hf h1 h2 d
    cases x with
    | none => rw [show v = .none from d]; exact ⟨_, Reads.none⟩
    | int i => obtain ⟨t, rfl⟩ := d; exact ⟨_, Reads.int i t⟩
    | tup xs => exact absurd rfl (h1 xs)
    | lst xs => exact absurd rfl (h2 xs)
    | _ => cases n <;> exact (Bool.false_ne_true hf).elim
  intro n
  induction n with
  | zero =>
    have h0 : ∀ (x : V) (v : Value), flat 0 x = true → SeqDen cls h ι x v → ∃ as, Reads h v (toPy x) as := fun x v hf d =>
      base 0 x v hf (fun xs e => by subst e; exact (Bool.false_ne_true hf).elim) (fun xs e => by subst e; exact (Bool.false_ne_true hf).elim) d
    exact ⟨h0, lift 0 h0⟩
  | succ n ih =>
    have h1 : ∀ (x : V) (v : Value), flat (n + 1) x = true → SeqDen cls h ι x v → ∃ as, Reads h v (toPy x) as := by
      intro x v hf d
      cases x with
      | tup xs =>
        refine el_EEAA d fun a vs hq2_ hn3_ ds => ?_
        refine eq_l hq2_ ?_
        obtain ⟨k, p⟩ := hn3_
        obtain ⟨as, q⟩ := ih.2 xs vs hf ds
        exact ⟨as, reads_tuple_at p rfl rfl (by simpa using q)⟩
      | lst xs =>
        refine el_EEAA d fun a vs hq2_ hn3_ ds => ?_
        refine eq_l hq2_ ?_
        obtain ⟨k, p⟩ := hn3_
        obtain ⟨as, q⟩ := ih.2 xs vs hf ds
        exact ⟨_, reads_list_at p rfl rfl (by simpa using q)⟩
      | _ => exact base _ _ _ hf (fun xs e => (by first | exact fail_e e | exact (List.not_mem_nil e).elim | exact (Bool.false_ne_true e).elim | exact nomatch e)) (fun xs e => (by first | exact fail_e e | exact (List.not_mem_nil e).elim | exact (Bool.false_ne_true e).elim | exact nomatch e)) d
    exact ⟨h1, lift (n + 1) h1⟩
end
theorem flat_lay : ∀ (n : Nat) (x : V), flat n x = true → (toPy x).canLay0 = true ∧ (toPy x).depth ≤ n := by
  have all : ∀ (n : Nat), (∀ x, flat n x = true → (toPy x).canLay0 = true ∧ (toPy x).depth ≤ n) → ∀ xs : List V, xs.all (flat n) = true → PyData.canLayAll0 (toPys xs) = true ∧ PyData.depthAll (toPys xs) ≤ n := by
    intro n ih xs
    induction xs with
    | nil => exact fun _ => ⟨rfl, Nat.zero_le _⟩
    | cons d ds hi =>
      intro h
      simp only [List.all_cons, Bool.and_eq_true] at h
      have h1 := ih d h.1
      have h2 := hi h.2
      exact ⟨(Bool.and_eq_true_iff.mpr ⟨h1.1, h2.1⟩ : ((toPy d).canLay0 && PyData.canLayAll0 (toPys ds)) = true), Nat.max_le.mpr ⟨h1.2, h2.2⟩⟩
  intro n
  induction n with
  | zero => intro x h; cases x <;> first | exact ⟨rfl, Nat.le_refl _⟩ | exact (Bool.false_ne_true h).elim
  | succ n ih =>
    intro x h
    cases x with
    | tup ds =>
      have q := all n ih ds h
      exact ⟨q.1, Nat.succ_le_succ q.2⟩
    | lst ds =>
      have q := all n ih ds h
      exact ⟨q.1, Nat.succ_le_succ q.2⟩
    | _ => first | exact ⟨rfl, Nat.zero_le _⟩ | exact (Bool.false_ne_true h).elim
theorem flat_eqv : ∀ (n : Nat) (x y : V) (k : Nat), flat n x = true → flat k y = true → PyData.eqv (toPy x) (toPy y) = V.beq x y := by
  have all : ∀ (n : Nat), (∀ x y k, flat n x = true → flat k y = true → PyData.eqv (toPy x) (toPy y) = V.beq x y) → ∀ (k : Nat) (xs ys : List V), xs.all (flat n) = true → ys.all (flat k) = true →
      PyData.eqvAll (toPys xs) (toPys ys) = V.beqs xs ys := by
    intro n ih k xs
    induction xs with
    | nil => intro es _ _; cases es <;> rfl
    | cons d ds hi =>
      intro es h1 h2
      cases es with
      | nil => rfl
      | cons e es =>
        simp only [List.all_cons, Bool.and_eq_true] at h1 h2
        show (PyData.eqv (toPy d) (toPy e) && PyData.eqvAll (toPys ds) (toPys es)) = _
        rw [ih d e k h1.1 h2.1, hi es h1.2 h2.2]; rfl
  intro n
  induction n with
  | zero =>
    intro x y k h1 h2
    cases x with
    | none => cases y <;> first | rfl | (cases k <;> exact (Bool.false_ne_true h2).elim)
    | int i => cases y <;> first | rfl | (cases k <;> exact (Bool.false_ne_true h2).elim)
    | _ => exact (Bool.false_ne_true h1).elim
  | succ n ih =>
    intro x y k h1 h2
    cases x with
    | tup ds =>
      cases y with
      | tup es =>
        cases k with
        | zero => exact (Bool.false_ne_true h2).elim
        | succ k =>
          exact all n ih k ds es h1 h2
      | _ => first | rfl | (cases k <;> exact (Bool.false_ne_true h2).elim)
    | lst ds =>
      cases y with
      | lst es =>
        cases k with
        | zero => exact (Bool.false_ne_true h2).elim
        | succ k =>
          exact all n ih k ds es h1 h2
      | _ => first | rfl | (cases k <;> exact (Bool.false_ne_true h2).elim)
    | none => cases y <;> first | rfl | (cases k <;> exact (Bool.false_ne_true h2).elim)
    | int i => cases y <;> first | rfl | (cases k <;> exact (Bool.false_ne_true h2).elim)
    | _ => exact (Bool.false_ne_true h1).elim
theorem flat_any : ∀ (n k : Nat) (xs : List V) (y : V), xs.all (flat n) = true → flat k y = true → ((toPys xs).any fun z => PyData.eqv z (toPy y)) = xs.any fun x => V.beq x y
  | _, _, [], _, _, _ => rfl
  | n, k, x :: xs, y, h, hy => by
    simp only [List.all_cons, Bool.and_eq_true] at h
    show (PyData.eqv (toPy x) (toPy y) || (toPys xs).any fun z => PyData.eqv z (toPy y)) = _
    rw [flat_any n k xs y h.2 hy, flat_eqv n x y k h.1 hy, List.any_cons]
theorem seqDen_of {cls : Cx} {h : Heap} {ι : List Addr} {x : V} {v : Value} (d : Den cls h ι x v) : SeqDen cls h ι x v := by
  cases x with
  | tup xs => obtain ⟨a, vs, e, _, p, ds⟩ := d; exact ⟨a, vs, e, p, ds⟩
  | lst xs => obtain ⟨a, vs, e, _, p, ds⟩ := d; exact ⟨a, vs, e, p, ds⟩
  | _ => exact d
structure Room (n : Nat) (A : Around) : Prop where
  hd : A.handled = none
  dep : A.depth + 4 * n + 10 < recursionLimit
  un : A.units + 40 * n + 400 < cLine
section
variable {w : World} {A : Around} {E : Value → Shared → Prop} {s : Shared} {cls : Cx} {h₀ : Heap} {ι : List Addr} {σ σ' : Sg} {a b : V} {va vb : Value} {c : Bool} {n : Nat} {op : CmpOp} {Q : Value → Shared → Prop}
theorem eqV_sound (R : Room n A) (k : Ok cls h₀ s.heap ι σ) (da : Den cls s.heap ι a va) (db : Den cls s.heap ι b vb) (e : eqV a b σ = some (c, σ')) :
    σ' = σ ∧ (Q (.bool c) s → wpAny (model prog w) A (compareOp .Eq va vb) Q E s) ∧ (Q (.bool (!c)) s → wpAny (model prog w) A (compareOp .NotEq va vb) Q E s) := by
  have plain : (do
      let a ← seqOf a
      let b ← seqOf b
      check (flat 6 a && flat 6 b)
      pure (V.beq a b) : M Bool) σ = some (c, σ') → σ' = σ ∧ (Q (.bool c) s → wpAny (model prog w) A (compareOp .Eq va vb) Q E s) ∧ (Q (.bool (!c)) s → wpAny (model prog w) A (compareOp .NotEq va vb) Q E s) := fun e => by
    refine bind_e e fun a' σ₁ e1 e => ?_
    refine bind_e e fun b' σ₂ e2 e => ?_
    obtain ⟨⟨⟩, σ₃, e3, e⟩ := bind_iff.mp e
    obtain ⟨rfl, d1⟩ := seqOf_den k da e1
    obtain ⟨rfl, d2⟩ := seqOf_den k db e2
    obtain ⟨hf, q3⟩ := check_iff.mp e3
    cases q3
    refine pure_e e ?_
    obtain ⟨f1, f2⟩ := Bool.and_eq_true_iff.mp hf
    obtain ⟨as, r1⟩ := (flat_reads 6).1 a' va f1 d1
    obtain ⟨bs, r2⟩ := (flat_reads 6).1 b' vb f2 d2
    obtain ⟨l1, l1'⟩ := flat_lay 6 a' f1
    obtain ⟨l2, l2'⟩ := flat_lay 6 b' f2
    have s1 : SeqAt.shaped (toPy a') = true := by unfold SeqAt.shaped; rw [l1, Bool.true_and]; exact decide_eq_true (Nat.le_trans l1' (by decide))
    have s2 : SeqAt.shaped (toPy b') = true := by unfold SeqAt.shaped; rw [l2, Bool.true_and]; exact decide_eq_true (Nat.le_trans l2' (by decide))
    have hu : A.units + 64 < cLine := by have := R.un; exact lin [_,_] (.h 1 1 (.a (.a (.v 0) (.m 40 (.v 1))) (.c 400)) (.c 9900) (.g 1 1 (.a (.v 0) (.c 64)) (.c 9900))) rfl this
    have ev := flat_eqv 6 a' b' 6 f1 f2
    exact ⟨rfl, fun q => eq_dataH r1 r2 s1 s2 hu (by rw [ev]; exact q), fun q => ne_dataH r1 r2 s1 s2 hu (by rw [ev]; exact q)⟩
  cases a <;> first | exact plain e | skip
  cases b <;> first | exact plain e | skip
  · refine pure_e e ?_
    refine el_E da fun t hq1_ => ?_
    refine eq_l hq1_ ?_
    refine el_E db fun u hq1_ => ?_
    refine eq_l hq1_ ?_
    exact ⟨rfl, fun q => eq_str q, fun q => ne_str q⟩
theorem inV_sound (R : Room n A) (k : Ok cls h₀ s.heap ι σ) (da : Den cls s.heap ι a va) (db : Den cls s.heap ι b vb) (e : inV a b σ = some (c, σ')) :
    σ' = σ ∧ (Q (.bool c) s → wpAny (model prog w) A (compareOp .In va vb) Q E s) ∧ (Q (.bool (!c)) s → wpAny (model prog w) A (compareOp .NotIn va vb) Q E s) := by
  unfold inV at e
  refine bind_e e fun b' σ₁ e1 e2 => ?_
  clear e
  refine el_A (seqOf_den k db e1) fun hq0_ d2 => ?_
  refine eq_r hq0_ ?_
  refine need_e e2 fun xs hx e2 => ?_
  · refine check_e e2 fun hf e4 => ?_
    refine pure_e e4 ?_
    cases asLst_e hx
    obtain ⟨f1, f2⟩ := Bool.and_eq_true_iff.mp hf
    obtain ⟨as, r1⟩ := (flat_reads 5).1 a va f1 (seqDen_of da)
    obtain ⟨bs, r2⟩ := (flat_reads 6).1 (.lst xs) vb f2 d2
    obtain ⟨l1, l1'⟩ := flat_lay 5 a f1
    obtain ⟨l2, l2'⟩ := flat_lay 6 (.lst xs) f2
    have r2 : Reads s.heap vb (.list (toPys xs)) bs := r2
    have l2 : PyData.canLayAll0 (toPys xs) = true := l2
    have l2' : PyData.depthAll (toPys xs) + 1 ≤ 6 := l2'
    have hm := Nat.min_le_right (PyData.depthAll (toPys xs)) (toPy a).depth
    have hu : A.units + 1 + min (PyData.depthAll (toPys xs)) (toPy a).depth < cLine := by have := R.un; exact lin [_,_,_,_] (.h 1 0 (.v 0) (.c 5) (.h 1 0 (.v 1) (.v 0) (.h 1 1 (.a (.a (.v 2) (.m 40 (.v 3))) (.c 400)) (.c 9900) (.g 1 1 (.a (.a (.v 2) (.c 1)) (.v 1)) (.c 9900))))) rfl l1' hm this
    have ev := flat_any 5 5 xs a f2 f1
    exact ⟨rfl, fun q => SeqAt.in_list_reads r2 r1 l2 l1 hu (by rw [ev]; exact q), fun q => SeqAt.notIn_list_reads r2 r1 l2 l1 hu (by rw [ev]; exact q)⟩
theorem ints_e {α : Type} {f : Int → Int → M α} {r : α × Sg} {C : Prop} (da : Den cls s.heap ι a va) (db : Den cls s.heap ι b vb) (e : (need (asInt a) >>= fun x => need (asInt b) >>= fun y => f x y) σ = some r) (k : ∀ x y t u, va = .int x t → vb = .int y u → f x y σ = some r → C) : C :=
  need_e e fun x hx e => need_e e fun y hy e =>
    el_E (show Den cls s.heap ι (.int x) va from asInt_e hx ▸ da) fun t ha => el_E (show Den cls s.heap ι (.int y) vb from asInt_e hy ▸ db) fun u hb => k x y t u ha hb e
theorem cmpV_sound (R : Room n A) (k : Ok cls h₀ s.heap ι σ) (da : Den cls s.heap ι a va) (db : Den cls s.heap ι b vb) (e : cmpV op a b σ = some (c, σ')) :
    σ' = σ ∧ (Q (.bool c) s → wpAny (model prog w) A (compareOp op va vb) Q E s) := by
  cases op with
  | Eq => exact el_AA (eqV_sound (w := w) (E := E) (Q := Q) R k da db e) fun h1 h2 _ => ⟨h1, h2⟩
  | NotEq =>
    refine bind_e e fun c' σ₁ e1 e => ?_
    refine pure_e e ?_
    exact el_AA (eqV_sound (w := w) (E := E) (Q := Q) R k da db e1) fun h1 _ h2 => ⟨h1, h2⟩
  | Lt => exact ints_e da db e fun x y t u ha hb e => by rw [ha, hb]; exact pure_e e ⟨rfl, fun q => P.lt_int q⟩
  | LtE => exact ints_e da db e fun x y t u ha hb e => by rw [ha, hb]; exact pure_e e ⟨rfl, fun q => P.le_int q⟩
  | Gt => exact ints_e da db e fun x y t u ha hb e => by rw [ha, hb]; exact pure_e e ⟨rfl, fun q => P.gt_int q⟩
  | GtE => exact ints_e da db e fun x y t u ha hb e => by rw [ha, hb]; exact pure_e e ⟨rfl, fun q => P.ge_int q⟩
  | Is =>
    refine check_e e fun hb e => ?_
    have hb := isN_e hb
    rw [show vb = .none from (show Den cls s.heap ι .none vb from hb ▸ db)]
    by_cases ha : isN a = true
    · rw [if_pos ha] at e
      have ha := isN_e ha
      rw [show va = .none from (show Den cls s.heap ι .none va from ha ▸ da)]
      exact pure_e e ⟨rfl, fun q => is_none_gen q⟩
    · rw [if_neg ha] at e
      refine need_e e fun xs hx e => ?_
      refine el_EEA (show Den cls s.heap ι (.tup xs) va from asTup_e hx ▸ da) fun a vs hq2_ _ => ?_
      rw [hq2_]
      exact pure_e e ⟨rfl, fun q => is_none_gen q⟩
  | IsNot =>
    refine need_e e fun x hx e => ?_
    refine need_e e fun y hy e => ?_
    rw [show va = .bool x from (show Den cls s.heap ι (.bool x) va from asBool_e hx ▸ da), show vb = .bool y from (show Den cls s.heap ι (.bool y) vb from asBool_e hy ▸ db)]
    exact pure_e e ⟨rfl, fun q => isnot_bool q⟩
  | In => exact el_AA (inV_sound (w := w) (E := E) (Q := Q) R k da db e) fun h1 h2 _ => ⟨h1, h2⟩
  | NotIn =>
    refine bind_e e fun c' σ₁ e1 e => ?_
    refine pure_e e ?_
    exact el_AA (inV_sound (w := w) (E := E) (Q := Q) R k da db e1) fun h1 _ h2 => ⟨h1, h2⟩
end
end Mine
end
section
open PySem PySem.W PyProof.Rows PySem.Spec
set_option maxRecDepth 100000
namespace Mine
noncomputable def Ret (cls : Cx) (h₀ : Heap) (ι : List Addr) (s : Shared) (σ' : Sg) (x : V) : Value → Shared → Prop :=
  fun v s' => After cls h₀ ι s σ' (fun h' ι' => Den cls h' ι' x v) s'
theorem seqIndex_place {n : Nat} {i : Int} {j : Nat} (e : place n i = some j) : seqIndex? i n = some j ∧ j < n ∧ -(n : Int) ≤ i ∧ i < n := by
  unfold place at e
  unfold seqIndex?
  split at e
  · split at e
    · rename_i h0 h1
      cases e
      refine in_AAA ?_ (by lia) (by exact lini [_,_] (.h 2 0 (.c 0) (.v 0) (.h 1 1 (.v 0) (.v 1) (.g 1 0 (.u (.v 1)) (.v 0)))) rfl h0 h1) h1
      have hn : ¬ i < 0 := by exact lini [_] (.h 1 0 (.c 0) (.v 0) (.g 1 5 (.v 0) (.c 0))) rfl h0
      simp only [hn, if_false]
      rw [if_pos (by simp only [Bool.and_eq_true, decide_eq_true_eq]; exact ⟨lini [_] (.h 1 0 (.c 0) (.v 0) (.g 1 0 (.c 0) (.v 0))) rfl h0, lini [_,_] (.h 1 1 (.v 0) (.v 1) (.g 1 1 (.v 0) (.v 1))) rfl h1⟩)]
    · cases e
  · split at e
    · rename_i h0 h1
      cases e
      refine in_AAA ?_ (by lia) (by exact lini [_,_] (.h 1 0 (.c 0) (.a (.v 0) (.v 1)) (.g 1 0 (.u (.v 1)) (.v 0))) rfl h1) (by exact lini [_,_] (.h 1 4 (.c 0) (.v 0) (.h 1 0 (.c 0) (.v 1) (.g 1 1 (.v 0) (.v 1)))) rfl h0 (Int.natCast_nonneg _))
      have hn : i < 0 := by exact lini [_] (.h 1 4 (.c 0) (.v 0) (.g 1 1 (.v 0) (.c 0))) rfl h0
      simp only [hn, if_true]
      rw [if_pos (by simp only [Bool.and_eq_true, decide_eq_true_eq]; exact ⟨lini [_,_] (.h 1 0 (.c 0) (.a (.v 0) (.v 1)) (.g 1 0 (.c 0) (.a (.v 0) (.v 1)))) rfl h1, lini [_,_] (.h 1 4 (.c 0) (.v 0) (.g 1 1 (.a (.v 0) (.v 1)) (.v 1))) rfl h0⟩)]
    · cases e
theorem lim_line : lim ≤ sizeLine := by decide
theorem lim_63 : (lim : Int) < 2 ^ 63 := by decide
section
variable {w : World} {A : Around} {E : Value → Shared → Prop} {s s' : Shared} {cls : Cx} {h₀ h' : Heap} {ι : List Addr} {σ σ' : Sg} {a b x : V} {va vb : Value} {n : Nat}
theorem notin_fresh (k : Ok cls h₀ s.heap ι σ) {c : Addr} (hc : s.heap.get? c = none) : Out cls ι c := by
  refine ⟨fun q => ?_, fun q => ?_⟩
  · obtain ⟨o, e⟩ := k.has q
    rw [hc] at e; cases e
  · obtain ⟨⟨o, e⟩, _⟩ := k.exs c q
    rw [hc] at e; cases e
theorem mkList_after {xs : List V} {vs : List Value} {tr : Bool} {c : Addr} {g d t o} (k : Ok cls h₀ s.heap ι σ) (ds : Dens cls s.heap ι xs vs) (e : mkList tr xs σ = some (x, σ')) (hs : s' = ⟨h', g, d, t, o⟩) (hg : g = s.gens) (ho : o = s.os)
    (hk : ∀ b o, s.heap.get? b = some o → h'.get? b = some o) (hc : s.heap.get? c = none) (hp : PlainLst h' c vs) : Ret cls h₀ ι s σ' x (.ref c) s' := by
  unfold mkList at e
  refine check_e e fun _ e2 => ?_
  cases tr with
  | false =>
    refine pure_e e2 ?_
    exact After.grow k hs hg ho hk ⟨c, vs, rfl, notin_fresh k hc, hp, ds.kp fun b o _ e => hk b o e⟩
  | true =>
    refine bind_e e2 fun l σ₂ e3 e4 => ?_
    cases newObj_iff.mp e3
    refine pure_e e4 ?_
    refine eq_l hs ?_
    have hx : ∀ b ∈ [c], s.heap.get? b = none := fun b hb => by rw [List.mem_singleton.mp hb]; exact hc
    refine ⟨hg, ho, [c], ⟨fun b o _ e => hk b o e, hx⟩, k.push hk hc ⟨vs, hp, Dens.step (fun b o _ e => hk b o e) hx xs vs ds⟩, c, rfl, ?_⟩
    rw [← k.len, List.getElem?_append_right (Nat.le_refl _), Nat.sub_self]; rfl
theorem natBits {i : Int} (h : i.natAbs < 2 ^ 64) : Builtin.Int.intBits i ≤ 64 := by
  unfold Builtin.Int.intBits
  split
  · exact lin [] (.g 1 0 (.c 0) (.c 64)) rfl
  · rename_i hne
    have : i.natAbs ≠ 0 := by
      intro q
      exact hne (by simpa using Int.natAbs_eq_zero.mp q)
    have := (Nat.log2_lt this).mpr h
    exact lin [_] (.h 1 1 (.v 0) (.c 64) (.g 1 0 (.a (.v 0) (.c 1)) (.c 64))) rfl this
theorem notPylong {x y : Int} (h : x.natAbs < 2 ^ 64) : Builtin.divisionGoesByPylong x y = false := by
  have hd : (if x == 0 then 0 else x.natAbs.log2 / 30 + 1) ≤ 150 := by
    split
    · exact lin [] (.g 1 0 (.c 0) (.c 150)) rfl
    · rename_i hne
      have hx : x.natAbs ≠ 0 := fun q => hne (by simpa using Int.natAbs_eq_zero.mp q)
      have := (Nat.log2_lt hx).mpr h
      lia
  unfold Builtin.divisionGoesByPylong
  dsimp only
  rw [decide_eq_false (Nat.not_lt.mpr (Nat.le_trans hd (Nat.le_add_left _ _))), Bool.and_false]
theorem foldl_flatten (its : Array Value) : ∀ (k : Nat) (acc : Array Value), (List.foldl (fun x1 x2 => x1 ++ x2) acc (List.replicate k its)).toList = acc.toList ++ (List.replicate k its.toList).flatten
  | 0, acc => by simp
  | k + 1, acc => by
    rw [List.replicate_succ, List.foldl_cons, foldl_flatten its k, List.replicate_succ, List.flatten_cons]
    simp [List.append_assoc]
theorem Dens.flatten {cls : Cx} {h : Heap} {ι : List Addr} {xs : List V} {vs : List Value} (ds : Dens cls h ι xs vs) : ∀ k : Nat, Dens cls h ι (List.replicate k xs).flatten (List.replicate k vs).flatten
  | 0 => rfl
  | k + 1 => by rw [List.replicate_succ, List.replicate_succ, List.flatten_cons, List.flatten_cons]; exact Dens.append ds (Dens.flatten ds k)
theorem binV_sound {op : Operator} {tr : Bool} (k : Ok cls h₀ s.heap ι σ) (da : Den cls s.heap ι a va) (db : Den cls s.heap ι b vb) (e : binV tr op a b σ = some (x, σ')) :
    wpAny (model prog w) A (binaryOp op va vb) (Ret cls h₀ ι s σ' x) E s := by
  cases op with
  | Add =>
    cases a <;> first | exact fail_e e | skip
    · refine need_e e fun y hy e0 => ?_
      clear e
      cases asInt_e hy
      refine el_E da fun t hq1_ => ?_
      refine el_E db fun u hq2_ => ?_
      rw [hq1_, hq2_]
      exact pure_e e0 (P.add_int (After.same k rfl rfl rfl ⟨_, rfl⟩))
    · refine need_e e fun y hy e0 => ?_
      clear e
      cases asTup_e hy
      refine check_e e0 fun hl e2 => ?_
      refine pure_e e2 ?_
      refine el_EEAAA da fun ta vs hq2_ hna hn4_ dsa => ?_
      refine eq_l hq2_ ?_
      obtain ⟨na, pa⟩ := hn4_
      refine el_EEAAA db fun tb ws hq2_ hnb hn4_ dsb => ?_
      refine eq_l hq2_ ?_
      obtain ⟨nb, pb⟩ := hn4_
      have la := Dens.length dsa
      have lb := Dens.length dsb
      have hll : vs.length + ws.length ≤ sizeLine := by rw [la, lb]; exact Nat.le_trans (of_decide_eq_true hl) lim_line
      by_cases hv : vs = []
      · refine concat_meets ⟨_, pa, rfl⟩ ⟨_, pb, rfl⟩ noFill_tuple_add seq_tuple_add PySem.F.slot_tuple_add PySem.F.entry_tuple_add (PySem.F.args_tuple_add_2 _ _) (AutoSeq1.tuple___add___tuple_tuple_0 ta vs.toArray na tb ws.toArray nb (by simp [hv])) ⟨pa, pb, ?_⟩
        refine After.same k rfl rfl rfl ⟨tb, ws, rfl, hnb, ⟨nb, pb⟩, ?_⟩
        have := Dens.append dsa dsb
        rwa [hv] at this
      · by_cases hw : ws = []
        · refine concat_meets ⟨_, pa, rfl⟩ ⟨_, pb, rfl⟩ noFill_tuple_add seq_tuple_add PySem.F.slot_tuple_add PySem.F.entry_tuple_add (PySem.F.args_tuple_add_2 _ _) (AutoSeq1.tuple___add___tuple_tuple_1 ta vs.toArray na tb ws.toArray nb (by simpa using hv) (by simp [hw])) ⟨pa, pb, ?_⟩
          refine After.same k rfl rfl rfl ⟨ta, vs, rfl, hna, ⟨na, pa⟩, ?_⟩
          have := Dens.append dsa dsb
          rwa [hw, List.append_nil] at this
        · refine concat_meets ⟨_, pa, rfl⟩ ⟨_, pb, rfl⟩ noFill_tuple_add seq_tuple_add PySem.F.slot_tuple_add PySem.F.entry_tuple_add (PySem.F.args_tuple_add_2 _ _) (AutoSeq1.tuple___add___tuple_tuple_2 ta vs.toArray na tb ws.toArray nb (by simpa using hv) (by simpa using hw) (by simpa using hll)) ⟨pa, pb, ?_⟩
          refine After.grow k rfl rfl rfl (fun b o e => Heap.get?_push_of_some _ e) ⟨s.heap.objs.size, vs ++ ws, rfl, notin_fresh k (get?_size _), ⟨0, ?_⟩, (Dens.append dsa dsb).kp fun b o _ e => Heap.get?_push_of_some _ e⟩
          have e : vs.toArray ++ ws.toArray = (vs ++ ws).toArray := by simp
          rw [e]
          exact Heap.get?_push_size _ rfl
    · refine need_e e fun y hy e0 => ?_
      clear e
      cases asLst_e hy
      have e := e0
      refine el_EEAAA da fun ta vs hq2_ hna hn4_ dsa => ?_
      refine eq_l hq2_ ?_
      obtain ⟨na, pa⟩ := hn4_
      refine el_EEAAA db fun tb ws hq2_ hnb hn4_ dsb => ?_
      refine eq_l hq2_ ?_
      obtain ⟨nb, pb⟩ := hn4_
      have la := Dens.length dsa
      have lb := Dens.length dsb
      have hll : vs.length + ws.length ≤ lim := by
        unfold mkList at e
        obtain ⟨⟨⟩, σ₁, e1, _⟩ := bind_iff.mp e
        obtain ⟨hl, _⟩ := check_iff.mp e1
        have := of_decide_eq_true hl
        rw [List.length_append] at this
        rw [la, lb]; exact this
      have e' : vs.toArray ++ ws.toArray = (vs ++ ws).toArray := by simp
      refine P.add_list pa pb ?_ (by simpa using Nat.le_trans hll lim_line)
      rw [e']
      exact mkList_after k (Dens.append dsa dsb) e rfl rfl rfl (fun b o e => Heap.get?_push_of_some _ e) (get?_size _) ⟨0, Heap.get?_push_size _ rfl⟩
  | Sub => exact ints_e da db e fun x y t u ha hb e => by rw [ha, hb]; exact pure_e e (P.sub_int (After.same k rfl rfl rfl ⟨_, rfl⟩))
  | Mult =>
    refine need_e e fun y hy e0 => ?_
    clear e
    cases asInt_e hy
    cases a <;> first | exact fail_e e0 | skip
    · refine check_e e0 fun hl e2 => ?_
      refine el_E da fun t hq1_ => ?_
      refine el_E db fun u hq2_ => ?_
      rw [hq1_, hq2_]
      exact pure_e e2 (P.mul_int (After.same k rfl rfl rfl ⟨_, rfl⟩) (IntMulOk.of_left (natBits (of_decide_eq_true hl))))
    · refine check_e e0 fun hl e2 => ?_
      refine check_e e2 fun hl2 e4 => ?_
      refine el_EEAAA da fun ta vs hq2_ hna hn4_ dsa => ?_
      refine eq_l hq2_ ?_
      obtain ⟨na, pa⟩ := hn4_
      refine el_E db fun u hq1_ => ?_
      refine eq_l hq1_ ?_
      have la := Dens.length dsa
      simp only [Bool.and_eq_true, decide_eq_true_eq] at hl hl2
      have hl3 : vs.toArray.size * y.toNat ≤ 2 ^ 24 := by rw [List.size_toArray, la]; exact Nat.le_trans hl2 (by decide)
      have hy : (y : Int) ≤ 1000000 := hl.2
      have hz : ∀ z : Nat, z ≤ 2 ^ 24 → ¬ z > (2 ^ 63 - 1) / 8 := fun z hz => by lia
      have hfit : ¬(!Builtin.List.listFitsIndex y) = true := by
        simp only [Builtin.List.listFitsIndex, Bool.not_eq_true', Bool.not_eq_false, Bool.and_eq_true, decide_eq_true_eq]
        lia
      refine wpAny_binaryOp_repeat_ref (T := "list") (U := "int") (by decide) ⟨_, pa, rfl⟩ (fun s' => typeIs_int s' y u) noFill_list_mul PySem.F.fills_int_mul PySem.F.slot_int_rmul repeat_list PySem.F.slot_int_index.lookup
        (call_meets PySem.F.slot_int_rmul (typeIs_int s y u) PySem.F.entry_int_rmul (PySem.F.args_int_rmul_2 _ _) (int___rmul___int_list y u ta vs.toArray na)
          ⟨pa, rfl, ⟨_, pa, rfl⟩, call_meets PySem.F.slot_list_mul ⟨_, pa, rfl⟩ PySem.F.entry_list_mul (PySem.F.args_list_mul_2 _ _)
            (AutoListH.list___mul___list_int_3 ta vs.toArray na y u hfit (hz _ hl3) (by have := hl3; simp [Builtin.List.listTooLong, sizeLine] at this ⊢; lia))
            ⟨pa, ?_⟩⟩)
      have hfl : (List.foldl (fun x1 x2 => x1 ++ x2) #[] (List.replicate (if vs.toArray.isEmpty = true then 0 else y.toNat) vs.toArray)) = ((List.replicate y.toNat vs).flatten).toArray := by
        apply Array.toList_inj.mp
        rw [foldl_flatten]
        by_cases hv : vs = []
        · subst hv; simp
        · have : vs.toArray.isEmpty = false := by simpa using hv
          rw [this]; simp
      rw [hfl]
      exact mkList_after k (Dens.flatten dsa _) e4 rfl rfl rfl (fun b o e => Heap.get?_push_of_some _ e) (get?_size _) ⟨0, Heap.get?_push_size _ rfl⟩
  | Mod =>
    refine ints_e da db e fun x y t u ha hb e => ?_
    rw [ha, hb]
    refine check_e e fun hl e2 => ?_
    refine pure_e e2 ?_
    have hj := of_decide_eq_true hl
    refine mod_int' (by exact fun q_ => lini [_] (.h 1 1 (.c 0) (.v 0) (.h 1 2 (.v 0) (.c 0) .f)) rfl hj q_) ?_
    rw [Int.fmod_eq_emod_of_nonneg _ (by exact lini [_] (.h 1 1 (.c 0) (.v 0) (.g 1 0 (.c 0) (.v 0))) rfl hj)]
    exact After.same k rfl rfl rfl ⟨_, rfl⟩
  | FloorDiv =>
    refine ints_e da db e fun x y t u ha hb e => ?_
    rw [ha, hb]
    refine check_e e fun hl e2 => ?_
    refine pure_e e2 ?_
    simp only [Bool.and_eq_true, decide_eq_true_eq] at hl
    obtain ⟨hj, hx⟩ := hl
    refine floordiv_int (by exact fun q_ => lini [_] (.h 1 1 (.c 0) (.v 0) (.h 1 2 (.v 0) (.c 0) .f)) rfl hj q_) ?_ (.inl (notPylong hx))
    rw [Int.fdiv_eq_ediv_of_nonneg _ (by exact lini [_] (.h 1 1 (.c 0) (.v 0) (.g 1 0 (.c 0) (.v 0))) rfl hj)]
    exact After.same k rfl rfl rfl ⟨_, rfl⟩
  | _ => exact fail_e e
end
end Mine
end
section
open PySem PySem.W PyProof.Rows PySem.Spec
set_option maxRecDepth 100000
namespace Mine
theorem subscripted_plain {slice : Expr} {o i : Value} (h : isSlice slice = false) : subscripted slice false o i = operate [o, i] (getItem o i) := by
  cases slice <;> first | rfl | exact (by first | exact fail_e h | exact (List.not_mem_nil h).elim | exact (Bool.false_ne_true h).elim | exact nomatch h)
noncomputable def bval (f : Str) : Value :=
  if f == ("int" : Str) then .type "int"
  else if f == ("len" : Str) then .builtin "len"
  else if f == ("list" : Str) then .type "list"
  else if f == ("max" : Str) then .builtin "max"
  else if f == ("min" : Str) then .builtin "min"
  else if f == ("range" : Str) then .type "range"
  else .type "tuple"
theorem ints_are {cls : Cx} {h : Heap} {ι : List Addr} {xs : List V} : ∀ {vs : List Value} {ns : List Int}, Dens cls h ι xs vs → intsOf xs = some ns → IntsAre vs ns := by
  induction xs with
  | nil => intro vs ns d e; rw [show vs = [] from d]; cases e; exact .nil
  | cons x xs ih =>
    intro vs ns d e
    cases x <;> first | exact fail_e e | skip
    refine el_EEAA d fun v r hv hd ds => el_E hd fun t ht => ?_
    refine el_EA (Option.map_eq_some_iff.mp (show (intsOf xs).map _ = some ns from e)) fun ms h1 h2 => ?_
    rw [hv, ht, ← h2]
    exact .cons _ t (ih ds h1)
theorem pll {h : Heap} {a : Addr} {vs : List Value} (p : PlainLst h a vs) : h.IsList a vs.toArray := let ⟨n, e⟩ := p; ⟨_, e, rfl, n, rfl⟩
theorem plainTup_isTup {h : Heap} {a : Addr} {vs : List Value} (p : PlainTup h a vs) : IsTup h a vs.toArray := let ⟨n, e⟩ := p; ⟨_, e, rfl, n, rfl⟩
theorem plainTup_isTuple {h : Heap} {a : Addr} {vs : List Value} (p : PlainTup h a vs) : h.IsTuple a vs.toArray := let ⟨n, e⟩ := p; ⟨_, e, rfl, n, rfl⟩
section
variable {w : World} {A : Around} {E : Value → Shared → Prop} {s s' : Shared} {cls : Cx} {h₀ h' : Heap} {ι : List Addr} {σ σ' : Sg} {a b x : V} {va vb : Value} {n : Nat}
theorem idxV_sound {value slice : Expr} (hsl : isSlice slice = false) (k : Ok cls h₀ s.heap ι σ) (da : Den cls s.heap ι a va) (db : Den cls s.heap ι b vb) (e : idxV a b σ = some (x, σ')) :
    wpAny (model prog w) A (subscriptTail value slice va vb) (Ret cls h₀ ι s σ' x) E s := by
  unfold idxV at e
  refine bind_e e fun a' σ₁ e1 e2 => ?_
  clear e
  obtain ⟨rfl, d1⟩ := seqOf_den k da e1
  refine need_e e2 fun i hi e2' => ?_
  refine need_e e2' fun xs hs e3 => ?_
  clear e2 e2'
  have hi := asInt_e hi
  have db : Den cls s.heap ι (.int i) vb := hi ▸ db
  rcases asSq_e hs with hs | hs
  · clear hi
    cases hs
    refine check_e e3 fun hl e4 => ?_
    obtain ⟨y, e5, q⟩ := need_iff.mp e4
    cases q
    obtain ⟨j, hj, hx⟩ := Option.bind_eq_some_iff.mp e5
    obtain ⟨c, vs, rfl, p, ds⟩ := d1
    obtain ⟨u, rfl⟩ := db
    have hlen := Dens.length ds
    obtain ⟨v, hv, dv⟩ := Dens.get ds hx
    obtain ⟨s1, s2, s3, s4⟩ := seqIndex_place hj
    have hl' := of_decide_eq_true hl
    have h63 := lim_63
    refine tail_any (plainTup_isTup p).typeIs slot_tuple_getitem.lookup (PyProof.Rows.getItem_tuple (plainTup_isTup p) (by lia) (by lia) (by rw [List.size_toArray, hlen]; exact s1) (by simpa using hv) ?_) (subscripted_plain hsl)
    exact After.same k rfl rfl rfl dv
  · clear hi
    cases hs
    refine check_e e3 fun hl e4 => ?_
    obtain ⟨y, e5, q⟩ := need_iff.mp e4
    cases q
    obtain ⟨j, hj, hx⟩ := Option.bind_eq_some_iff.mp e5
    obtain ⟨c, vs, rfl, p, ds⟩ := d1
    obtain ⟨u, rfl⟩ := db
    have hlen := Dens.length ds
    obtain ⟨v, hv, dv⟩ := Dens.get ds hx
    obtain ⟨s1, s2, s3, s4⟩ := seqIndex_place hj
    have hl' := of_decide_eq_true hl
    have h63 := lim_63
    have hsz : vs.toArray.size = xs.length := by rw [List.size_toArray, hlen]
    refine tail_any (pll p).typeIs slot_list_getitem.lookup ?_ (subscripted_plain hsl)
    by_cases hi : 0 ≤ i
    · have : i.toNat = j := by
        unfold place at hj
        rw [if_pos hi, if_pos s4] at hj
        exact Option.some.inj hj
      exact wpAny_getItem_list (pll p) hi (by lia) (by rw [this]; simpa using hv) (After.same k rfl rfl rfl dv)
    · have : (i + vs.toArray.size).toNat = j := by
        unfold place at hj
        rw [if_neg hi, if_pos (by exact lini [_,_] (.h 1 0 (.u (.v 0)) (.v 1) (.g 1 0 (.c 0) (.a (.v 1) (.v 0)))) rfl s3)] at hj
        rw [hsz]
        exact Option.some.inj hj
      exact wpAny_getItem_list_neg (pll p) (by exact lini [_] (.h 1 4 (.c 0) (.v 0) (.g 1 1 (.v 0) (.c 0))) rfl hi) (by rw [hsz]; exact lini [_,_] (.h 1 0 (.u (.v 0)) (.v 1) (.g 1 0 (.u (.v 0)) (.v 1))) rfl s3) (by lia) (by rw [this]; simpa using hv) (After.same k rfl rfl rfl dv)
theorem sliceV_sound {value : Expr} {lo hi : Option Expr} {pos : Pos} {sl : Addr} {vl vu : Value} {xl xu : Option V} (k : Ok cls h₀ s.heap ι σ) (da : Den cls s.heap ι a va) (e : sliceV a xl xu σ = some (x, σ'))
    (hs : s.heap.IsSliceOf sl vl vu .none) (dl : (xl = none ∧ vl = .none) ∨ ∃ y, xl = some y ∧ Den cls s.heap ι y vl) (du : (xu = none ∧ vu = .none) ∨ ∃ y, xu = some y ∧ Den cls s.heap ι y vu) :
    wpAny (model prog w) A (subscriptTail value (.Slice lo hi none pos) va (.ref sl)) (Ret cls h₀ ι s σ' x) E s := by
  unfold sliceV at e
  refine bind_e e fun a' σ₁ e1 e2 => ?_
  clear e
  obtain ⟨rfl, d1⟩ := seqOf_den k da e1
  refine need_e e2 fun xs hs e3 => ?_
  clear e2
  · cases asLst_e hs
    refine check_e e3 fun hl e4 => ?_
    obtain ⟨c, vs, rfl, p, ds⟩ := d1
    have hlen := Dens.length ds
    have hsz : vs.toArray.size ≤ sizeLine := by rw [List.size_toArray, hlen]; exact Nat.le_trans (of_decide_eq_true hl) lim_line
    have fin : ∀ (ws : List Value) (ys : List V) (lo' hi' : Option Int), Dens cls s.heap ι ys ws → slicePick vs.toArray lo' hi' none = ws.toArray →
        Ret cls h₀ ι s σ₁ (.lst ys) (.ref s.heap.objs.size) { s with heap := s.heap.push { cls := .type "list", data := .seq (slicePick vs.toArray lo' hi' none) } } := by
      intro ws ys lo' hi' dw ew
      rw [ew]
      exact After.grow k rfl rfl rfl (fun b o e => Heap.get?_push_of_some _ e) ⟨s.heap.objs.size, ws, rfl, notin_fresh k (get?_size _), ⟨0, Heap.get?_push_size _ rfl⟩, dw.kp fun b o _ e => Heap.get?_push_of_some _ e⟩
    refine tail_any (pll p).typeIs slot_list_getitem.lookup ?_ (ops := [.ref sl, .ref c]) rfl
    cases xl with
    | none =>
      refine need_e e4 fun v hv e4' => ?_
      refine need_e e4' fun i hi e5 => ?_
      clear e4 e4'
      cases asInt_e hi
      cases hv
      refine check_e e5 fun h0 e6 => ?_
      refine pure_e e6 ?_
      have h0' := of_decide_eq_true h0
      have hvl : vl = .none := by rcases dl with ⟨_, h⟩ | ⟨y, h, _⟩; exact h; cases h
      obtain ⟨u, hvu⟩ : ∃ u, vu = .int i u := by rcases du with ⟨h, _⟩ | ⟨y, h, d⟩; cases h; cases h; exact d
      subst hvl; subst hvu
      refine wpAny_getItem_list_slice (pll p) hs .none (.int _ _) .none (by simp) (fin (vs.take i.toNat) _ _ _ (Dens.take _ ds) ?_) hsz
      refine el_E (Int.eq_ofNat_of_zero_le h0') fun m hq1_ => ?_
      refine eq_l hq1_ ?_
      have := slicePick_upto' vs.toArray m
      simpa using this
    | some v =>
      refine check_e e4 fun hn e4' => ?_
      refine need_e e4' fun i hi e5 => ?_
      clear e4 e4'
      cases Option.isNone_iff_eq_none.mp hn
      cases asInt_e hi
      refine check_e e5 fun h0 e6 => ?_
      refine pure_e e6 ?_
      have h0' := of_decide_eq_true h0
      have hvu : vu = .none := by rcases du with ⟨_, h⟩ | ⟨y, h, _⟩; exact h; cases h
      obtain ⟨u, hvl⟩ : ∃ u, vl = .int i u := by rcases dl with ⟨h, _⟩ | ⟨y, h, d⟩; cases h; cases h; exact d
      subst hvu; subst hvl
      refine wpAny_getItem_list_slice (pll p) hs (.int _ _) .none .none (by simp) (fin (vs.drop i.toNat) _ _ _ (Dens.drop _ ds) ?_) hsz
      refine el_E (Int.eq_ofNat_of_zero_le h0') fun m hq1_ => ?_
      refine eq_l hq1_ ?_
      have := slicePick_from' vs.toArray m
      simpa using this
theorem one_d {α : Type} {f : V → M α} {r : α × Sg} {C : Prop} {vs : List V} {vals : List Value} {h : Heap} (e : (need (one vs) >>= fun v => f v) σ = some r) (ds : Dens cls h ι vs vals) (k : ∀ v u, vals = [u] → Den cls h ι v u → f v σ = some r → C) : C :=
  need_e e fun v hv e => el_EEAA (show Dens cls h ι [v] vals from one_e hv ▸ ds) fun u r' h1 d h2 => k v u (h1.trans (congrArg (u :: ·) h2)) d e
theorem two_d {α : Type} {f : Int → Int → M α} {r : α × Sg} {C : Prop} {vs : List V} {vals : List Value} (e : (need vs.head? >>= fun v => need (one vs.tail) >>= fun w => need (asInt v) >>= fun a => need (asInt w) >>= fun b => f a b) σ = some r) (ds : Dens cls s.heap ι vs vals)
    (k : ∀ a b t t', vals = [.int a t, .int b t'] → f a b σ = some r → C) : C := by
  cases vs with
  | nil => exact fail_e e
  | cons v l =>
    refine el_EEAA ds fun u us hq d ds => ?_
    refine one_d (f := fun w => need (asInt v) >>= fun a => need (asInt w) >>= fun b => f a b) e ds fun w u2 hq2 d2 e => ?_
    exact ints_e d d2 e fun x y t t' h1 h2 e => k x y t t' (by rw [hq, hq2, h1, h2]) e
theorem callB_sound {f : Str} {vs : List V} {vals : List Value} (R : Room n A) (k : Ok cls h₀ s.heap ι σ) (ds : Dens cls s.heap ι vs vals) (e : callB f vs σ = some (x, σ')) :
    wpAny (model prog w) A (call (bval f) vals) (Ret cls h₀ ι s σ' x) E s := by
  unfold callB at e
  unfold bval
  by_cases h1 : (f == ("int" : Str)) = true
  · rw [if_pos h1] at e
    rw [if_pos h1]
    refine one_d e ds fun v u hq d e => ?_
    rw [hq]
    cases v <;> first | exact fail_e e | skip
    · rw [show u = .bool _ from d]
      exact pure_e e (call_int_bool (After.same k rfl rfl rfl ⟨_, rfl⟩))
    · refine el_E d fun t hq => ?_
      rw [hq]
      exact pure_e e (call_int_int (After.same k rfl rfl rfl ⟨_, rfl⟩))
  rw [if_neg h1] at e
  rw [if_neg h1]
  by_cases h2 : (f == ("len" : Str)) = true
  · rw [if_pos h2] at e
    rw [if_pos h2]
    refine one_d e ds fun x0 u hq d e => ?_
    rw [hq]
    refine bind_e e fun y σ₁ e1 e2 => ?_
    refine el_A (seqOf_den k d e1) fun hq0_ d1 => ?_
    refine need_e e2 fun xs hs e3 => ?_
    clear e2
    have h63 := lim_63
    rcases asSq_e hs with hy | hy
    · cases hy
      refine check_e e3 fun hl e4 => ?_
      refine pure_e e4 ?_
      refine eq_l hq0_ ?_
      refine el_EEAA d1 fun c vs hq2_ p ds => ?_
      refine eq_l hq2_ ?_
      have hlen := Dens.length ds
      have hl' := of_decide_eq_true hl
      exact PyProof.Rows.len_tuple (plainTup_isTup p) (by rw [List.size_toArray, hlen]; lia) (After.same k rfl rfl rfl ⟨_, by rw [List.size_toArray, hlen]⟩)
    · cases hy
      refine check_e e3 fun hl e4 => ?_
      refine pure_e e4 ?_
      refine eq_l hq0_ ?_
      refine el_EEAA d1 fun c vs hq2_ p ds => ?_
      refine eq_l hq2_ ?_
      have hlen := Dens.length ds
      have hl' := of_decide_eq_true hl
      exact len_list (pll p) (by rw [List.size_toArray, hlen]; lia) (After.same k rfl rfl rfl ⟨_, by rw [List.size_toArray, hlen]⟩)
  rw [if_neg h2] at e
  rw [if_neg h2]
  by_cases h3 : (f == ("list" : Str)) = true
  · rw [if_pos h3] at e
    rw [if_pos h3]
    refine one_d e ds fun x0 u hq d e => ?_
    rw [hq]
    refine bind_e e fun y σ₁ e1 e2 => ?_
    refine el_A (seqOf_den k d e1) fun hq0_ d1 => ?_
    refine need_e e2 fun xs hs e3 => ?_
    clear e2
    have fin : ∀ (ws : List Value) (ys : List V) h' c', Dens cls s.heap ι ys ws → (∀ b o', s.heap.get? b = some o' → h'.get? b = some o') → h'.get? s.heap.objs.size = some { cls := .type "list", dict := none, data := .seq ws.toArray c', slots := #[] } →
        Ret cls h₀ ι s σ (.lst ys) (.ref s.heap.objs.size) { s with heap := h' } := fun ws ys h' c' dw hk hq =>
      After.grow k rfl rfl rfl hk ⟨s.heap.objs.size, ws, rfl, notin_fresh k (get?_size _), ⟨c', hq⟩, dw.kp fun b o _ e => hk b o e⟩
    rcases asSq_e hs with hy | hy
    · cases hy
      refine check_e e3 fun hl e4 => ?_
      refine pure_e e4 ?_
      refine eq_l hq0_ ?_
      refine el_EEAA d1 fun c vs hq2_ hn3_ ds => ?_
      refine eq_l hq2_ ?_
      obtain ⟨nn, p⟩ := hn3_
      have hlen := Dens.length ds
      have hl' := of_decide_eq_true hl
      exact call_list_seq c (.inr rfl) p rfl rfl (fun h' c' hk hq => fin vs _ h' c' ds hk hq) (by rw [List.size_toArray, hlen]; exact Nat.le_trans hl' lim_line)
    · cases hy
      refine check_e e3 fun hl e4 => ?_
      refine pure_e e4 ?_
      refine eq_l hq0_ ?_
      refine el_EEAA d1 fun c vs hq2_ hn3_ ds => ?_
      refine eq_l hq2_ ?_
      obtain ⟨nn, p⟩ := hn3_
      have hlen := Dens.length ds
      have hl' := of_decide_eq_true hl
      exact call_list_seq c (.inl rfl) p rfl rfl (fun h' c' hk hq => fin vs _ h' c' ds hk hq) (by rw [List.size_toArray, hlen]; exact Nat.le_trans hl' lim_line)
  rw [if_neg h3] at e
  rw [if_neg h3]
  by_cases h4 : (f == ("max" : Str)) = true
  · rw [if_pos h4] at e
    rw [if_pos h4]
    refine two_d e ds fun a b t t' hq e => ?_
    rw [hq]
    refine pure_e e ?_
    refine max_two_ints R.hd fun h' tk hk => After.grow k rfl rfl rfl hk ?_
    rw [Int.max_def]
    by_cases hc : b > a
    · rw [if_pos hc, if_pos (Int.le_of_lt hc)]; exact ⟨_, rfl⟩
    · rw [if_neg hc]
      refine ⟨t, ?_⟩
      by_cases hd : a ≤ b
      · rw [if_pos hd, Int.le_antisymm hd (Int.not_lt.mp hc)]
      · rw [if_neg hd]
  rw [if_neg h4] at e
  rw [if_neg h4]
  by_cases h5 : (f == ("min" : Str)) = true
  · rw [if_pos h5] at e
    rw [if_pos h5]
    refine two_d e ds fun a b t t' hq e => ?_
    rw [hq]
    refine pure_e e ?_
    refine min_two_ints R.hd fun h' tk hk => After.grow k rfl rfl rfl hk ?_
    rw [Int.min_def]
    by_cases hc : b < a
    · rw [if_pos hc, if_neg (Int.not_le.mpr hc)]; exact ⟨_, rfl⟩
    · rw [if_neg hc, if_pos (Int.not_lt.mp hc)]; exact ⟨_, rfl⟩
  rw [if_neg h5] at e
  rw [if_neg h5]
  by_cases h6 : (f == ("range" : Str)) = true
  · rw [if_pos h6] at e
    rw [if_pos h6]
    cases vs with
    | nil => exact fail_e e
    | cons v r =>
    refine need_e e fun v' hv' e0 => ?_
    cases hv'
    refine need_e e0 fun a hv e1 => ?_
    clear e e0
    have e := e1
    cases asInt_e hv
    refine el_EEAA ds fun u us hq2_ hn3_ ds => ?_
    refine el_E hn3_ fun tk hq3_ => ?_
    rw [hq2_, hq3_]
    cases r with
    | nil =>
      rw [show us = [] from ds]
      refine check_e e fun hl e4 => ?_
      exact pure_e e4 (call_range_1 (After.grow k rfl rfl rfl (fun b o e => Heap.get?_push_of_some _ e) ⟨s.heap.objs.size, rfl, notin_fresh k (get?_size _), _, _, _, Heap.get?_push_size _ rfl⟩))
    | cons w r =>
      refine one_d e ds fun v2 u2 hq d2 e => ?_
      rw [hq]
      refine need_e e fun b hv e' => ?_
      clear e
      cases asInt_e hv
      refine el_E d2 fun tk hq3_ => ?_
      rw [hq3_]
      refine check_e e' fun hl e4 => ?_
      exact pure_e e4 (call_range_2 (After.grow k rfl rfl rfl (fun b o e => Heap.get?_push_of_some _ e) ⟨s.heap.objs.size, rfl, notin_fresh k (get?_size _), _, _, _, Heap.get?_push_size _ rfl⟩))
  rw [if_neg h6] at e
  rw [if_neg h6]
  by_cases h7 : (f == ("tuple" : Str)) = true
  · rw [if_pos h7] at e
    refine one_d e ds fun x0 u hq d e => ?_
    rw [hq]
    refine bind_e e fun y σ₁ e1 e2 => ?_
    refine el_A (seqOf_den k d e1) fun hq0_ d1 => ?_
    refine need_e e2 fun xs hs e3 => ?_
    clear e2
    rcases asSq_e hs with hy | hy
    · -- a tuple is handed on
      cases hy
      refine check_e e3 fun hl e4 => ?_
      refine pure_e e4 ?_
      refine eq_l hq0_ ?_
      have hx : x0 = .tup xs := by
        cases x0 <;> first | exact (congrArg Prod.fst (Option.some.inj (show some (_, σ) = some (V.tup xs, σ₁) from e1))) | skip
        exact getList_e e1 fun xs q e2 => nomatch pure_iff.mp e2
      cases hx
      refine el_EEAAA d fun c ws hq2_ hn p dsw => ?_
      refine eq_l hq2_ ?_
      exact call_tuple_same (plainTup_isTuple p) (After.same k rfl rfl rfl ⟨c, ws, rfl, hn, p, dsw⟩)
    · cases hy
      refine check_e e3 fun hl e4 => ?_
      refine pure_e e4 ?_
      refine eq_l hq0_ ?_
      refine el_EEAA d1 fun c vs hq2_ p ds => ?_
      refine eq_l hq2_ ?_
      have hlen := Dens.length ds
      have hl' := of_decide_eq_true hl
      refine call_tuple_list (pll p) (fun h' hk => After.grow k rfl rfl rfl (fun b o e => Heap.get?_push_of_some _ (hk b o e)) ?_) (by rw [List.size_toArray, hlen]; exact Nat.le_trans hl' lim_line)
      refine in_EEAAA h'.objs.size vs rfl (notin_fresh k ?_) ⟨0, Heap.get?_push_size _ rfl⟩ (ds.kp fun b o _ e => Heap.get?_push_of_some _ (hk b o e))
      cases e : s.heap.get? h'.objs.size with
      | none => rfl
      | some o => exact absurd (Heap.lt_size (hk _ _ e)) (Nat.lt_irrefl _)
  rw [if_neg h7] at e
  exact fail_e e
end
end Mine
end
section
open PySem PySem.W PyProof.Rows PySem.Spec
set_option maxRecDepth 100000
namespace Mine
noncomputable def lmeth (n : Str) : String := if n == ("append" : Str) then "list.append" else if n == ("pop" : Str) then "list.pop" else "list.count"
section
variable {w : World} {A : Around} {E : Value → Shared → Prop} {s s' : Shared} {cls : Cx} {h₀ h' : Heap} {ι : List Addr} {σ σ' : Sg} {a b x : V} {va vb : Value} {n : Nat}
theorem lmeth_get {nm : Str} {l : Addr} {vs : List Value} {pl : Sem Bool} {Q : Value × List Value → Shared → Prop} (hn : (nm == ("append" : Str) || nm == ("pop" : Str) || nm == ("count" : Str)) = true) (p : PlainLst s.heap l vs)
    (h : Q (.builtin (lmeth nm), [.ref l]) s) : wpAny (model prog w) A (getMethod (.ref l) nm pl) Q E s := by
  obtain ⟨k, p⟩ := p
  have hd : ∀ a, Value.ref l = .ref a → ∃ o, s.heap.get? a = some o ∧ o.dict = none := fun a e => by cases e; exact ⟨_, p, rfl⟩
  simp only [Bool.or_eq_true, beq_iff_eq] at hn
  rcases hn with (rfl | rfl) | rfl
  · exact getMethod_builtin (T := "list") ⟨_, p, rfl⟩ PySem.F.plainAttrs_list PySem.F.slot_list_append PySem.F.type_list_append hd h
  · exact getMethod_builtin (T := "list") ⟨_, p, rfl⟩ PySem.F.plainAttrs_list PySem.F.slot_list_pop PySem.F.type_list_pop hd h
  · exact getMethod_builtin (T := "list") ⟨_, p, rfl⟩ PySem.F.plainAttrs_list PySem.F.slot_list_count PySem.F.type_list_count hd h
theorem methL_sound {nm : Str} {pl : Sem Bool} {Q : Value × List Value → Shared → Prop} (k : Ok cls h₀ s.heap ι σ) (d : Den cls s.heap ι a va) (hi : ∀ c l, a ≠ .inst c l) (e : methV a nm σ = some ((), σ'))
    (h : σ' = σ → Q (.builtin (lmeth nm), [va]) s) : wpAny (model prog w) A (getMethod va nm pl) Q E s := by
  cases a with
  | inst _ _ => exact absurd rfl (hi _ _)
  | ref l =>
    refine check_e e fun hn e2 => ?_
    refine getList_e e2 fun xs q e4 => ?_
    refine el_EA d fun c hq hc => ?_
    rw [hq]
    exact el_EA (k.obj _ _ _ hc q) fun vs p _ => lmeth_get hn p (hq ▸ h (congrArg Prod.snd (pure_iff.mp e4)))
  | lst _ =>
    refine el_AA (show _ ∧ _ ∧ True from ⟨(check_iff.mp e).1, (check_iff.mp e).2, trivial⟩) fun hn q _ => ?_
    exact el_EEAAA d fun c vs hq _ p _ => by rw [hq]; exact lmeth_get hn p (hq ▸ h (congrArg Prod.snd q))
  | _ => exact fail_e e
theorem dropLast_erase (vs : List Value) : (vs.toArray.eraseIdxIfInBounds (vs.toArray.size - 1)).toList = vs.dropLast := by
  rcases List.eq_nil_or_concat vs with rfl | ⟨r, y, rfl⟩
  · simp
  · simp [Array.eraseIdxIfInBounds, List.eraseIdx_append_of_length_le]
theorem Dens.dropLast {cls : Cx} {h : Heap} {ι : List Addr} {xs : List V} {vs : List Value} (ds : Dens cls h ι xs vs) : Dens cls h ι xs.dropLast vs.dropLast := by
  rw [List.dropLast_eq_take, List.dropLast_eq_take, Dens.length ds]
  exact Dens.take _ ds
theorem After.upd {l : Nat} {c : Addr} {o' : MObj} {R : Heap → List Addr → Prop} {g d t o} (k : Ok cls h₀ s.heap ι σ) (el : ι[l]? = some c) (hs : s' = ⟨h', g, d, t, o⟩) (hg : g = s.gens) (ho : o = s.os) (hb : Heap.SameBut c s.heap h') (hob : ObjAt cls h' ι c o')
    (hr : R h' ι) : After cls h₀ ι s (σ.set l o') R s' := by
  refine eq_l hs ?_
  refine ⟨hg, ho, [], ⟨fun b ob hn e => (hb.2 b fun q => hn (q ▸ List.mem_of_getElem? el)).trans e, fun _ q => (List.not_mem_nil q).elim⟩, ?_, ?_⟩
  · rw [List.append_nil]; exact k.set el hb hob
  · rw [List.append_nil]; exact hr
theorem kp_sameBut {c : Addr} {l : Nat} (el : ι[l]? = some c) (hb : Heap.SameBut c s.heap h') : Kp ι s.heap h' := fun b ob hn e => (hb.2 b fun q => hn (q ▸ List.mem_of_getElem? el)).trans e
theorem callL_sound {nm : Str} {vs : List V} {vals : List Value} (k : Ok cls h₀ s.heap ι σ) (d : Den cls s.heap ι a va) (ds : Dens cls s.heap ι vs vals) (e : callL nm a vs σ = some (x, σ')) :
    wpAny (model prog w) A (call (.builtin (lmeth nm)) (va :: vals)) (Ret cls h₀ ι s σ' x) E s := by
  unfold callL at e
  unfold lmeth
  by_cases hn : (nm == ("append" : Str)) = true
  · rw [if_pos hn] at e
    rw [if_pos hn]
    · refine need_e e fun l ha e => ?_
      have d : Den cls s.heap ι (.ref l) va := asRef_e ha ▸ d
      refine one_d e ds fun y' y hq2_ dy e => ?_
      refine getList_e e fun xs q e4 => ?_
      · refine check_e e4 fun hl e2 => ?_
        obtain ⟨⟨⟩, σ₁, e6, e7⟩ := bind_iff.mp e2
        obtain ⟨hlt, q'⟩ := setObj_iff.mp e6
        cases q'
        refine pure_e e7 ?_
        refine el_EA d fun c hq1_ hc => ?_
        refine eq_l hq1_ ?_
        refine el_EA (k.obj _ _ _ hc q) fun ws p dw => ?_
        refine eq_l hq2_ ?_
        have hlen := Dens.length dw
        have hl' := of_decide_eq_true hl
        refine wpAny_list_append_plain (items := ws.toArray) p (fun h' hp hs => ?_) (by rw [List.size_toArray, hlen]; exact Nat.le_of_lt (Nat.lt_of_lt_of_le hl' lim_line))
        have hk := kp_sameBut hc hs
        obtain ⟨m, hp⟩ := hp
        exact After.upd k hc rfl rfl rfl hs ⟨ws ++ [y], ⟨m, by rw [hp]; simp⟩, (Dens.append dw (Dens.one dy)).kp hk⟩ rfl
  · rw [if_neg hn] at e
    rw [if_neg hn]
    by_cases hn : (nm == ("pop" : Str)) = true
    · rw [if_pos hn] at e
      rw [if_pos hn]
      · refine need_e e fun l ha e => ?_
        have d : Den cls s.heap ι (.ref l) va := asRef_e ha ▸ d
        refine check_e e fun hvs e => ?_
        have ds : Dens cls s.heap ι [] vals := List.isEmpty_iff.mp hvs ▸ ds
        refine getList_e e fun xs q e4 => ?_
        · refine check_e e4 fun hl e2 => ?_
          refine need_e e2 fun y' hy e9 => ?_
          obtain ⟨⟨⟩, σ₁, e6, e7⟩ := bind_iff.mp e9
          obtain ⟨hlt, q'⟩ := setObj_iff.mp e6
          cases q'
          refine pure_e e7 ?_
          refine el_EA d fun c hq1_ hc => ?_
          refine eq_l hq1_ ?_
          refine el_EA (k.obj _ _ _ hc q) fun ws hn1_ dw => ?_
          obtain ⟨m, p⟩ := hn1_
          rw [show vals = [] from ds]
          have hlen := Dens.length dw
          have hl' := of_decide_eq_true hl
          rw [List.getLast?_eq_getElem?] at hy
          refine el_EA (Dens.get dw hy) fun v hv dv => ?_
          have hv' : ws.toArray[ws.toArray.size - 1]? = some v := by rw [List.size_toArray, hlen]; simpa using hv
          refine call_meets PySem.F.slot_list_pop ⟨_, p, rfl⟩ PySem.F.entry_list_pop (PySem.F.args_list_pop_1 _) (MeetsSeq.list_pop_last c ws.toArray m v hv' (by rw [List.size_toArray, hlen]; exact Nat.le_trans hl' lim_line)) ⟨p, ?_⟩
          have hs : Heap.SameBut c s.heap (s.heap.update c (Obj.mapSeq fun xs => xs.eraseIdxIfInBounds (ws.toArray.size - 1))) := Heap.SameBut.update ..
          have hk := kp_sameBut hc hs
          refine After.upd k hc rfl rfl rfl hs ⟨ws.dropLast, ?_, (Dens.dropLast dw).kp hk⟩ (dv.kp hk)
          have := IsL.update p (fun xs => xs.eraseIdxIfInBounds (ws.toArray.size - 1))
          have e2 : ws.toArray.eraseIdxIfInBounds (ws.toArray.size - 1) = ws.dropLast.toArray := by
            apply Array.toList_inj.mp
            rw [dropLast_erase]
          rw [e2] at this
          exact ⟨_, this⟩
    · rw [if_neg hn] at e
      rw [if_neg hn]
      by_cases hn : (nm == ("count" : Str)) = true
      · rw [if_pos hn] at e
        refine need_e e fun xs ha e => ?_
        have d : Den cls s.heap ι (.lst xs) va := asLst_e ha ▸ d
        refine one_d e ds fun y' y hq2_ dy e => ?_
        refine need_e e fun i hi e => ?_
        refine el_E (show Den cls s.heap ι (.int i) y from asInt_e hi ▸ dy) fun t hq3_ => ?_
        refine need_e e fun ns' hns e9 => ?_
        rw [hq2_, hq3_]
        refine el_EEAAA d fun c ws hq2_ _ p dw => ?_
        rw [hq2_]
        exact pure_e e9 (count_list_ints (pll p) (ints_are dw hns) (After.same k rfl rfl rfl ⟨_, rfl⟩))
      · rw [if_neg hn] at e
        exact fail_e e
theorem setItem_plain {l : Addr} {vs : List Value} {i : Int} {t : Tok} {v : Value} {Q : Unit → Shared → Prop} (hl : PlainLst s.heap l vs)
    (h0 : 0 ≤ i) (hfit : i < 2 ^ 63) (hn : i < vs.length)
    (hQ : ∀ h', PlainLst h' l (vs.set i.toNat v) → Heap.SameBut l s.heap h' → Q () { s with heap := h' }) :
    wpAny (model prog w) A (setItem (.ref l) (.int i t) v) Q E s := by
  obtain ⟨ne, ho⟩ := hl
  have hT : s.TypeIs (.ref l) "list" := ⟨_, ho, rfl⟩
  unfold setItem
  try with_reducible refine wpAny_holding ?_
  first | refine wpAny_bind (wpAny_pure ?_) | skip
  refine wpAny_bind (wpAny_sequenceKey hT (by decide) ?_)
  refine wpAny_bind (wpAny_callSpecial?_slot (name := Str.ofString "__setitem__") hT slot_list_setitem
    (wpAny_call_entry slot_list_setitem hT entry_list_setitem ?_ (args_list_setitem _ _ _)))
  show wpAny _ _ (Builtin.List.listSubscript? (.int i t) >>= _) _ _ s
  refine wpAny_bind (wpAny_listSubscript_int (fitsIndex_of h0 hfit) ?_)
  clear hfit
  obtain ⟨j, rfl⟩ := Int.eq_ofNat_of_zero_le h0
  have hj : j < vs.toArray.size := by rw [List.size_toArray]; exact Int.ofNat_lt.mp (lini [_,_] (.h 1 1 (.v 0) (.v 1) (.g 1 1 (.v 0) (.v 1))) rfl hn)
  have hx' : vs.toArray[j]? = some vs.toArray[j] := Array.getElem?_eq_getElem hj
  show wpAny _ _ ((seqItemAt l j >>= fun r => pure (r.map (j, ·))) >>= _) _ _ s
  refine wpAny_bind (wpAny_bind (wpAny_seqItemAt ho rfl (wpAny_pure ?_)))
  rw [hx']
  show wpAny _ _ (setSeqItemAt l j v >>= _) _ _ s
  have hfin : PlainLst (s.heap.update l (Obj.mapSeq (·.setIfInBounds j v))) l (vs.set j v) := by
    have q := IsL.update ho (fun xs => xs.setIfInBounds j v)
    have e2 : vs.toArray.setIfInBounds j v = (vs.set j v).toArray := by simp
    rw [e2] at q
    exact ⟨_, q⟩
  refine wpAny_bind (wpAny_setSeqItemAt ho rfl ?_)
  first
    | exact wpAny_bind (wpAny_pure (wpAny_pure ⟨.none, rfl, wpAny_pure (hQ _ hfin (Heap.SameBut.update ..))⟩))
    | exact wpAny_pure ⟨.none, rfl, wpAny_pure (hQ _ hfin (Heap.SameBut.update ..))⟩
theorem setIdxV_sound {c : V} {vc : Value} (k : Ok cls h₀ s.heap ι σ) (da : Den cls s.heap ι a va) (db : Den cls s.heap ι b vb) (dc : Den cls s.heap ι c vc) (e : setIdxV a b c σ = some ((), σ')) :
    wpAny (model prog w) A (setItem va vb vc) (fun _ s' => After cls h₀ ι s σ' (fun _ _ => True) s') E s := by
  refine need_e e fun l' ha e => ?_
  have da : Den cls s.heap ι (.ref l') va := asRef_e ha ▸ da
  refine getObj_e e fun o' q e4 => ?_
  refine need_e e4 fun i hi e5 => ?_
  have db : Den cls s.heap ι (.int i) vb := asInt_e hi ▸ db
  cases o' <;> first | exact fail_e e5 | skip
  · · refine check_e e5 fun hl e2 => ?_
      obtain ⟨hlt, q'⟩ := setObj_iff.mp e2
      cases q'
      refine el_EA da fun l hq1_ hc => ?_
      refine eq_l hq1_ ?_
      refine el_E db fun u hq1_ => ?_
      refine eq_l hq1_ ?_
      refine el_EA (k.obj _ _ _ hc q) fun ws p dw => ?_
      have hlen := Dens.length dw
      simp only [Bool.and_eq_true, decide_eq_true_eq] at hl
      have h63 := lim_63
      refine setItem_plain p (by exact lini [_] (.h 1 0 (.c 0) (.v 0) (.g 1 0 (.c 0) (.v 0))) rfl hl.1.1) (by lia) (by exact lini [_,_,_] (.h 1 1 (.v 0) (.v 1) (.h 1 3 (.v 2) (.v 1) (.g 1 1 (.v 0) (.v 2)))) rfl hl.1.2 (congrArg Int.ofNat hlen)) fun h' hp hs => ?_
      exact After.upd k hc rfl rfl rfl hs ⟨_, hp, (Dens.set _ dw dc).kp (kp_sameBut hc hs)⟩ trivial
  · · refine check_e e5 fun hl e2 => ?_
      obtain ⟨hlt, q'⟩ := setObj_iff.mp e2
      cases q'
      refine el_EA da fun l hq1_ hc => ?_
      refine eq_l hq1_ ?_
      refine el_E db fun u hq1_ => ?_
      refine eq_l hq1_ ?_
      obtain ⟨⟨f, hm⟩, dl⟩ := k.obj _ _ _ hc q
      have hl' := of_decide_eq_true hl
      exact wpAny_setItem_intMap_le hm dl (Nat.le_of_lt (Nat.lt_of_lt_of_le hl' lim_line)) fun h' hm' dl' hs => After.upd k hc rfl rfl rfl hs ⟨⟨_, hm'⟩, dl'⟩ trivial
end
end Mine
end
section
open PySem PySem.W PyProof.Rows PySem.Spec
set_option maxRecDepth 100000
namespace Mine
structure ClsOk (K : Frag) (cls : Cx) : Prop where
  get : ∀ c C, cls.c c = some C → findIn K (.ref C) "__getattribute__" = some (some (.builtin "object.__getattribute__"))
  nog : ∀ c C, cls.c c = some C → findIn K (.ref C) "__getattr__" = some none
  hasD : ∀ c C, cls.c c = some C → hasDictIn K C = true
  set : ∀ c C, cls.c c = some C → findIn K (.ref C) "__setattr__" = some (some (.builtin "object.__setattr__"))
  plain : ∀ c C, cls.c c = some C → plainOver K C = true
  flds : ∀ c C, cls.c c = some C → ∀ n ∈ fldsOf c, findIn K (.ref C) n = some none
theorem den_handed {cls : Cx} {h : Heap} {ι : List Addr} {x : V} {v : Value} (d : Den cls h ι x v) : handedIn v = true := by
  cases x with
  | none => rw [show v = .none from d]; rfl
  | bool b => rw [show v = .bool b from d]; rfl
  | int i => obtain ⟨t, rfl⟩ := d; rfl
  | str i => obtain ⟨t, rfl⟩ := d; rfl
  | tup xs => obtain ⟨a, vs, rfl, _⟩ := d; rfl
  | lst xs => obtain ⟨a, vs, rfl, _⟩ := d; rfl
  | rng a b => obtain ⟨a, rfl, _⟩ := d; rfl
  | ref l => obtain ⟨a, rfl, _⟩ := d; rfl
  | inst c l => obtain ⟨a, _, _, rfl, _⟩ := d; rfl
theorem ns_look {h : Heap} {dx : Addr} {m : Str → Option Value} {n : Str} (hn : h.Ns dx m) : ∃ od, h.get? dx = some od ∧ lookIn n od = some (m n) := by
  refine el_EEEAAA hn fun od es ep ho hd hk hm => ?_
  refine ⟨od, ho, ?_⟩
  unfold lookIn
  rw [hd]
  dsimp only
  have hf : nsFind es n = m n := hm n
  unfold nsFind findBy at hf
  rw [← Array.find?_toList] at hf
  cases q : es.toList.find? (fun e => e.key.isStr n) with
  | some e => rw [q] at hf; rw [← hf]; rfl
  | none =>
    rw [q] at hf
    have hany : es.toList.any (·.refKey) = false := by
      rw [List.any_eq_false]
      intro e he
      refine el_EE (hk e (Array.mem_toList_iff.mp he)) fun x t hx => ?_
      simp [DictEntry.refKey, hx]
    rw [hany, ← hf]; rfl
section
variable {w : World} {A : Around} {E : Value → Shared → Prop} {s s' : Shared} {cls : Cx} {h₀ h' : Heap} {ι : List Addr} {σ σ' : Sg} {a b x : V} {va vb : Value} {n : Nat} {K : Frag}
theorem inst_at {c : Str} {C x dx : Addr} {m : Str → Option Value} {od : Obj} (io : InstObj s.heap x C dx) (hod : s.heap.get? dx = some od) : InstAt s.heap x { cls := .ref C, dict := some dx, data := .plain } C (some od) :=
  ⟨io, rfl, rfl, hod⟩
theorem attrV_sound {nm : Str} {expr : Bool} (X : K.In h₀) (KC : ClsOk K cls) (k : Ok cls h₀ s.heap ι σ) (d : Den cls s.heap ι a va) (e : attrV a nm σ = some (x, σ')) :
    wpAny (model prog w) A (getAttr va nm expr) (Ret cls h₀ ι s σ' x) E s := by
  cases a <;> first | exact fail_e e | skip
  · rename_i c l
    refine check_e e fun hn e2 => ?_
    refine getFields_e e2 fun fs q e4 => ?_
    · refine el_EA (need_iff.mp e4) fun y hy q' => ?_
      cases q'
      refine el_EEEAAAA d fun xa C dx hq3_ hni hc io hdx => ?_
      refine eq_l hq3_ ?_
      refine el_AEA (k.obj _ _ _ hdx q) fun dl m hN hm => ?_
      refine el_EA (ns_look (n := nm) hN) fun od hod hlk => ?_
      have hmn := hm nm
      unfold fieldOf at hy
      rw [hy] at hmn
      refine el_EA hmn fun v hv dv => ?_
      rw [hv] at hlk
      have hfl := KC.flds c C hc nm (by simpa using hn)
      exact get_value (X.keeps k.stay) (inst_at (c := c) (m := m) io hod) (KC.get c C hc) (findObj_own (KC.hasD c C hc) hfl rfl hlk) (den_handed dv) (After.same k rfl rfl rfl dv)
theorem putField_look (n : Str) (v : V) : ∀ (fs : List (Str × V)) (y : Str), (putField n v fs).lookup y = if y = n then some v else fs.lookup y
  | [], y => by
    rw [qpn]
    by_cases h : y = n
    · subst h; simp
    · have : (y == n) = false := by simpa using h
      simp [List.lookup_cons, this, h]
  | (k, u) :: r, y => by
    rw [qpf]
    split
    · rename_i hk
      have hk : k = n := by simpa using hk
      refine eq_r hk ?_
      by_cases h : y = k
      · subst h; simp
      · have : (y == k) = false := by simpa using h
        simp [List.lookup_cons, this, h]
    · rename_i hk
      have hk : k ≠ n := by simpa using hk
      rw [List.lookup_cons, List.lookup_cons]
      by_cases hy : y = k
      · refine eq_l hy ?_
        simp [hk]
      · have : (y == k) = false := by simpa using hy
        rw [this]
        exact putField_look n v r y
theorem putField_len (n : Str) (v : V) : ∀ (fs : List (Str × V)), (putField n v fs).length = if (fs.lookup n).isSome then fs.length else fs.length + 1
  | [] => by simp [qpn]
  | (k, u) :: r => by
    rw [qpf]
    split
    · rename_i hk
      have hk : k = n := by simpa using hk
      refine eq_l hk ?_
      simp
    · rename_i hk
      have hk : ¬ k = n := by simpa using hk
      have : (n == k) = false := by simpa using fun e => hk e.symm
      rw [List.lookup_cons, this, List.length_cons, List.length_cons, putField_len n v r]
      split <;> rfl
theorem nsSet_le {M : Model} {A : Around} {E : Value → Shared → Prop} {s : Shared} {a : Addr} {m : Str → Option Value} {nm : Str} {v : Value} {n : Nat} {Q : Unit → Shared → Prop} (hn : s.heap.Ns a m) (hz : s.heap.DictLe a n)
    (hQ : ∀ h', h'.Ns a (fun y => if y = nm then some v else m y) → h'.DictLe a (if (m nm).isSome then n else n + 1) → Heap.SameBut a s.heap h' → Q () { s with heap := h', toks := s.toks + 1 }) : wpAny M A (nsSet a nm v) Q E s := by
  refine el_EEEAAA hn fun o es ep ho hd hk hm => ?_
  have hzz := hz _ _ _ ho hd
  have hany : es.any (·.refKey) = false := by
    rw [Array.any_eq_false']; intro e he; obtain ⟨n, t, h⟩ := hk e he; simp [DictEntry.refKey, h]
  have hfind : m nm = match es.findIdx? fun e => e.key.isStr nm with | some i => es[i]?.map (·.val) | none => none := by
    rw [← hm nm]; exact findBy_of_findIdx? (fun n v => v.isStr n) es nm
  unfold nsSet
  refine wpAny_bind (wpAny_bind (wpAny_askSetting (wpAny_pure (wpAny_bind (wpAny_mkText (wpAny_bind (wpAny_loadPart ho ?_)))))))
  rw [hd]
  simp only [aRefKeyMayBeTheName_eq, aRefKeyMayBeTheNameByArray, hany, Bool.and_false, Bool.false_eq_true, if_false]
  refine wpAny_updatePart ho (hQ _ ?_ ?_ (Heap.SameBut.update ..))
  · obtain ⟨c, d, dt, sl⟩ := o
    subst hd
    cases hi : es.findIdx? (·.key.isStr nm) with
    | some i =>
      refine in_EEEAAA _ _ ep (Heap.get?_update_self _ ho (by simp only [Obj.putName_eq, Obj.putNameByArray, hi]; rfl)) (by simp only [Obj.putName_eq, Obj.putNameByArray, hi]; rfl) (hk.modify _ _) (fun x => ?_)
      show _ = if x = nm then some v else m x
      rw [← hm]; exact findBy_modify (fun n v => v.isStr n) Value.isStr_inj es nm x v i hi
    | none =>
      refine in_EEEAAA _ _ (ep + 1) (Heap.get?_update_self _ ho (by simp only [Obj.putName_eq, Obj.putNameByArray, hi]; rfl)) (by simp only [Obj.putName_eq, Obj.putNameByArray, hi]; rfl) (hk.push _ _ _ _) (fun x => ?_)
      show _ = if x = nm then some v else m x
      rw [← hm]
      exact findBy_push (fun n v => v.isStr n) es nm x _ _ v (fun y => by
        show (nm == y) = decide (y = nm)
        by_cases h : y = nm
        · subst h; simp
        · have : ¬ nm = y := fun e => h e.symm
          simp [h, this]) hi
  · obtain ⟨c, d, dt, sl⟩ := o
    subst hd
    intro o' es' ep' ho' hd'
    cases hi : es.findIdx? (·.key.isStr nm) with
    | some i =>
      rw [Heap.get?_update_self _ ho (by simp only [Obj.putName_eq, Obj.putNameByArray, hi]; rfl)] at ho'
      cases ho'
      simp only [Obj.putName_eq, Obj.putNameByArray, hi] at hd'
      cases hd'
      obtain ⟨hlt, _⟩ := Array.findIdx?_eq_some_iff_getElem.mp hi
      rw [hi] at hfind
      have : (m nm).isSome = true := by rw [hfind]; simp [hlt]
      rw [this, Array.size_modify]; exact hzz
    | none =>
      rw [Heap.get?_update_self _ ho (by simp only [Obj.putName_eq, Obj.putNameByArray, hi]; rfl)] at ho'
      cases ho'
      simp only [Obj.putName_eq, Obj.putNameByArray, hi] at hd'
      cases hd'
      rw [hi] at hfind
      have : (m nm).isSome = false := by rw [hfind]; rfl
      rw [this, Array.size_push]; exact Nat.succ_le_succ hzz
theorem osa_ns {R : Result → Shared → Prop} {x C dx : Addr} {nm : Str} {tk : Tok} {v : Value} {m : Str → Option Value} {n : Nat} (X : K.In s.heap) (io : InstObj s.heap x C dx) (hN : s.heap.Ns dx m) (hz : s.heap.DictLe dx n) (hn : n ≤ 1000)
    (hp : plainOver K C = true) (ht : takerIn K C nm = some none) (hh : hasDictIn K C = true)
    (h : ∀ h' tk', h'.Ns dx (fun y => if y = nm then some v else m y) → h'.DictLe dx (if (m nm).isSome then n else n + 1) → Heap.SameBut dx s.heap h' → R (.ok (.ret .none)) { s with heap := h', toks := tk' }) :
    codeAny (model prog w) A (.call (.builtin "object.__setattr__") ⟨[.ref x, .str nm tk, v], []⟩) R s := by
  refine el_EA (ns_look (n := nm) hN) fun od hod _ => ?_
  have I := inst_at (c := nm) (m := m) io hod
  refine osa_open X I hp ht fun b => ?_
  refine el_EA (any_some hh) fun cd hc hd' => ?_
  refine wpAny_bind (wpAny_pure (wpAny_bind (wpAny_bind (wpAny_loadPart io (wpAny_bind ((looks_clsIn X hc).here ?_))))))
  rw [hd']
  refine wpAny_pure (a := some dx) (wpAny_bind (wpAny_pure (wpAny_bind ?_)))
  refine nsSet_le hN hz fun h' hN' hz' hs => ?_
  refine el_EEEAA (id hN') fun o' es' ep' ho' hd'' _ => ?_
  have := hz' _ _ _ ho' hd''
  refine wpAny_bind (wpAny_lookBehind ho' (by rw [hd'']; exact pastItsLine_dict (by rw [sizeLine_eq]; split at this <;> lia)) ?_)
  exact wpAny_pure (h _ _ hN' hz' hs)
theorem setAttrV_sound {nm : Str} {y : V} {vy : Value} (X : K.In h₀) (KC : ClsOk K cls) (k : Ok cls h₀ s.heap ι σ) (d : Den cls s.heap ι a va) (dy : Den cls s.heap ι y vy) (e : setAttrV a nm y σ = some ((), σ')) :
    wpAny (model prog w) A (setAttr va nm vy) (fun _ s' => After cls h₀ ι s σ' (fun _ _ => True) s') E s := by
  cases a <;> first | exact fail_e e | skip
  · rename_i c l
    refine check_e e fun hn e2 => ?_
    refine getFields_e e2 fun fs q e4 => ?_
    · refine check_e e4 fun hle e7 => ?_
      have hle := of_decide_eq_true hle
      obtain ⟨hlt, q'⟩ := setObj_iff.mp e7
      cases q'
      refine el_EEEAAAA d fun xa C dx hq3_ hni hc io hdx => ?_
      refine eq_l hq3_ ?_
      refine el_AEA (k.obj _ _ _ hdx q) fun dl m hN hm => ?_
      refine el_EA (ns_look (n := nm) hN) fun od hod hlk => ?_
      have hfl := KC.flds c C hc nm (by simpa using hn)
      have ht : takerIn K C nm = some none := by unfold takerIn; rw [hfl]; rfl
      have X' := X.keeps k.stay
      refine set_plain X' (inst_at (c := c) (m := m) io hod) (KC.set c C hc) (osa_ns (s := { s with toks := s.toks + 1 }) X' io hN dl (by exact lin [_] (.h 1 0 (.v 0) (.c 100) (.g 1 0 (.v 0) (.c 1000))) rfl hle) (KC.plain c C hc) ht (KC.hasD c C hc) fun h' tk' hN' hz' hs => ?_)
      refine After.upd (s' := { s with heap := h', toks := tk' }) k hdx rfl rfl rfl hs ⟨?_, _, hN', fun z => ?_⟩ trivial
      · refine hz'.mono ?_
        have hmn := hm nm
        have := putField_len nm y fs
        split at hmn
        · rename_i q; rw [q] at this; rw [hmn]; simp only [Option.isSome_none] at this ⊢; exact lin [_,_] (.h 1 3 (.v 0) (.v 1) (.g 1 0 (.v 1) (.v 0))) rfl this
        · rename_i q; rw [q] at this; obtain ⟨v, hv, _⟩ := hmn; rw [hv]; simp only [Option.isSome_some] at this ⊢; exact lin [_,_] (.h 1 3 (.v 0) (.v 1) (.g 1 0 (.v 1) (.v 0))) rfl this
      rw [putField_look]
      have hmz := hm z
      by_cases hz : z = nm
      · simp only [hz, if_true]
        exact ⟨vy, rfl, dy.kp (kp_sameBut hdx hs)⟩
      · simp only [hz, if_false]
        split at hmz
        · exact hmz
        · refine el_EA hmz fun v hv dv => ?_
          exact ⟨v, hv, dv.kp (kp_sameBut hdx hs)⟩
theorem methI_sound {nm : Str} {pl : Sem Bool} {c : Str} {l : Nat} {f C : Addr} {Q : Value × List Value → Shared → Prop} (X : K.In h₀) (KC : ClsOk K cls) (k : Ok cls h₀ s.heap ι σ) (d : Den cls s.heap ι (.inst c l) va)
    (hC : cls.c c = some C) (hf : findIn K (.ref C) nm = some (some (.ref f))) (ht : isFn K (.ref f) = true) (hfs : ∃ fs, σ[l]? = some (.fields fs) ∧ fs.lookup nm = none)
    (h : Q (.ref f, [va]) s) : wpAny (model prog w) A (getMethod va nm pl) Q E s := by
  obtain ⟨xa, C', dx, rfl, hni, hc, io, hdx⟩ := d
  rw [hC] at hc; cases hc
  obtain ⟨fs, q, hnf⟩ := hfs
  obtain ⟨dl, m, hN, hm⟩ := k.obj _ _ _ hdx q
  obtain ⟨od, hod, hlk⟩ := ns_look (n := nm) hN
  have hmn := hm nm
  rw [hnf] at hmn
  have hmn : m nm = none := hmn
  refine method_fn (X.keeps k.stay) (inst_at (c := c) (m := m) io hod) (KC.get c C hC) (KC.nog c C hC) hf (beq_iff_eq.mp ht) ?_ h
  show (lookIn nm od).map _ = _
  rw [hlk, hmn]; rfl
end
end Mine
end
section
open PySem PySem.W PyProof.Rows PySem.Spec
set_option maxRecDepth 100000
namespace Mine
noncomputable def Rise (xs : Array Nat) : Prop := xs.toList.Pairwise (· < ·)
theorem Rise.lt {xs : Array Nat} (r : Rise xs) {i j : Nat} (h : i < j) (hj : j < xs.size) : xs.getD i 0 < xs.getD j 0 := by
  have hi : i < xs.size := Nat.lt_trans h hj
  have := List.pairwise_iff_getElem.mp r i j (by simpa using hi) (by simpa using hj) h
  simp only [Array.getElem_toList] at this
  simpa [Array.getD, hi, hj] using this
theorem go_spec {xs : Array Nat} (r : Rise xs) (j : Nat) : ∀ (fuel lo hi : Nat), hi - lo ≤ fuel → lo ≤ hi → hi ≤ xs.size → (∀ i, i < lo → xs.getD i 0 < j) → (∀ i, hi ≤ i → i < xs.size → j ≤ xs.getD i 0) →
    lo ≤ SetTable.below.go xs j fuel lo hi ∧ SetTable.below.go xs j fuel lo hi ≤ hi ∧ (∀ i, i < SetTable.below.go xs j fuel lo hi → xs.getD i 0 < j) ∧ ∀ i, SetTable.below.go xs j fuel lo hi ≤ i → i < xs.size → j ≤ xs.getD i 0
  | 0, lo, hi, hf, hle, _, h1, h2 => by
    have : lo = hi := Nat.le_antisymm hle (Nat.le_of_sub_eq_zero (Nat.le_zero.mp hf))
    subst this
    unfold SetTable.below.go
    exact in_AAA (Nat.le_refl _) (Nat.le_refl _) h1 h2
  | fuel + 1, lo, hi, hf, hle, hsz, h1, h2 => by
    unfold SetTable.below.go
    by_cases hlt : lo < hi
    · rw [if_pos hlt]
      dsimp only
      have hm1 : lo ≤ (lo + hi) / 2 := half_le hle
      have hm2 : (lo + hi) / 2 < hi := half_lt hlt
      have hmid : xs.getD ((lo + hi) / 2) j = xs.getD ((lo + hi) / 2) 0 := by simp [Array.getD, show (lo + hi) / 2 < xs.size by exact lin [_,_,_] (.h 1 0 (.v 0) (.v 1) (.h 1 1 (.v 2) (.v 0) (.g 1 1 (.v 2) (.v 1)))) rfl hsz hm2]
      rw [hmid]
      by_cases hc : xs.getD ((lo + hi) / 2) 0 < j
      · rw [if_pos hc]
        have := go_spec r j fuel ((lo + hi) / 2 + 1) hi (Nat.le_trans (Nat.sub_le_sub_left (Nat.succ_le_succ hm1) hi) (Nat.pred_le_pred hf)) (by exact lin [_,_] (.h 1 1 (.v 0) (.v 1) (.g 1 0 (.a (.v 0) (.c 1)) (.v 1))) rfl hm2) hsz (fun i hi' => by
          by_cases e : i = (lo + hi) / 2
          · subst e; exact hc
          · exact Nat.lt_trans (r.lt (i := i) (j := (lo + hi) / 2) (Nat.lt_of_le_of_ne (Nat.le_of_lt_succ hi') e) (by exact lin [_,_,_] (.h 1 0 (.v 0) (.v 1) (.h 1 1 (.v 2) (.v 0) (.g 1 1 (.v 2) (.v 1)))) rfl hsz hm2)) hc) h2
        exact ⟨by exact lin [_,_,_] (.h 1 0 (.v 0) (.v 1) (.h 1 0 (.a (.v 1) (.c 1)) (.v 2) (.g 1 0 (.v 0) (.v 2)))) rfl hm1 this.1, this.2⟩
      · rw [if_neg hc]
        have := go_spec r j fuel lo ((lo + hi) / 2) (Nat.le_of_lt_succ (Nat.lt_of_lt_of_le (Nat.sub_lt_sub_right hm1 hm2) hf)) (by exact lin [_,_] (.h 1 0 (.v 0) (.v 1) (.g 1 0 (.v 0) (.v 1))) rfl hm1) (by exact lin [_,_,_] (.h 1 0 (.v 0) (.v 1) (.h 1 1 (.v 2) (.v 0) (.g 1 0 (.v 2) (.v 1)))) rfl hsz hm2) h1 (fun i hi' hs => by
          by_cases e : i = (lo + hi) / 2
          · subst e; exact lin [_,_] (.h 1 5 (.v 0) (.v 1) (.g 1 0 (.v 1) (.v 0))) rfl hc
          · have := r.lt (i := (lo + hi) / 2) (j := i) (Nat.lt_of_le_of_ne hi' (Ne.symm e)) hs; exact lin [_,_,_] (.h 1 5 (.v 0) (.v 1) (.h 1 1 (.v 0) (.v 2) (.g 1 0 (.v 1) (.v 2)))) rfl hc this)
        exact ⟨this.1, by exact lin [_,_,_] (.h 1 1 (.v 0) (.v 1) (.h 1 0 (.v 2) (.v 0) (.g 1 0 (.v 2) (.v 1)))) rfl hm2 this.2.1, this.2.2⟩
    · rw [if_neg hlt]
      have : lo = hi := by exact Nat.le_antisymm (lin [_,_] (.h 1 0 (.v 0) (.v 1) (.g 1 0 (.v 0) (.v 1))) rfl hle) (lin [_,_] (.h 1 5 (.v 0) (.v 1) (.g 1 0 (.v 1) (.v 0))) rfl hlt)
      subst this
      exact in_AAA (Nat.le_refl _) (Nat.le_refl _) h1 h2
theorem below_spec {xs : Array Nat} (r : Rise xs) (j : Nat) : SetTable.below xs j ≤ xs.size ∧ (∀ i, i < SetTable.below xs j → xs.getD i 0 < j) ∧ ∀ i, SetTable.below xs j ≤ i → i < xs.size → j ≤ xs.getD i 0 := by
  unfold SetTable.below
  have := go_spec r j xs.size 0 xs.size (Nat.le_refl _) (by exact lin [_] (.g 1 0 (.c 0) (.v 0)) rfl) (Nat.le_refl _) (fun i h => (Nat.not_lt_zero i h).elim) (fun i h1 h2 => (Nat.not_le.mpr h2 h1).elim)
  exact this.2
theorem below_next {xs : Array Nat} (r : Rise xs) (k : Nat) (hk : k ≤ xs.size) : SetTable.below xs (if k = 0 then 0 else xs.getD (k - 1) 0 + 1) = k := by
  generalize hj : (if k = 0 then 0 else xs.getD (k - 1) 0 + 1) = j
  refine el_AA (below_spec r j) fun h0 h1 h2 => ?_
  rcases Nat.lt_trichotomy (SetTable.below xs j) k with h | h | h
  · have a := h2 (SetTable.below xs j) (Nat.le_refl _) (by exact lin [_,_,_] (.h 1 0 (.v 0) (.v 1) (.h 1 1 (.v 2) (.v 0) (.g 1 1 (.v 2) (.v 1)))) rfl hk h)
    have hk0 : k ≠ 0 := by exact fun q_ => lin [_,_] (.h 1 1 (.v 0) (.v 1) (.h 1 2 (.v 1) (.c 0) .f)) rfl h q_
    rw [if_neg hk0] at hj
    by_cases e : SetTable.below xs j = k - 1
    · rw [e] at a; exact (Nat.not_succ_le_self _ (Nat.le_trans (Nat.le_of_eq hj) a)).elim
    · have := r.lt (i := SetTable.below xs j) (j := k - 1) (Nat.lt_of_le_of_ne (Nat.le_sub_one_of_lt h) e) (Nat.lt_of_lt_of_le (Nat.sub_lt (Nat.pos_of_ne_zero hk0) Nat.one_pos) hk); exact (Nat.not_succ_le_self _ (Nat.le_trans (Nat.le_of_eq hj) (Nat.le_trans a (Nat.le_of_lt this)))).elim
  · exact h
  · have a := h1 k h
    by_cases hk0 : k = 0
    · rw [if_pos hk0] at hj; exact (Nat.not_lt_zero _ (Nat.lt_of_lt_of_eq a hj.symm)).elim
    · rw [if_neg hk0] at hj
      have := r.lt (i := k - 1) (j := k) (Nat.sub_lt (Nat.pos_of_ne_zero hk0) Nat.one_pos) (by exact lin [_,_,_] (.h 1 0 (.v 0) (.v 1) (.h 1 1 (.v 2) (.v 0) (.g 1 1 (.v 2) (.v 1)))) rfl h0 h); exact (Nat.lt_irrefl _ (Nat.lt_of_lt_of_le a (Nat.le_trans (Nat.le_of_eq hj.symm) this))).elim
theorem rise_insert {xs : Array Nat} (r : Rise xs) {j : Nat} (hn : j ∉ xs.toList) : Rise (SetTable.insertAt xs (SetTable.below xs j) j) := by
  refine el_AA (below_spec r j) fun h0 h1 h2 => ?_
  unfold Rise
  rw [SetTable.toList_insertAt]
  have hget : ∀ i (hi : i < xs.size), xs.toList[i]'(by simpa using hi) = xs.getD i 0 := fun i hi => by simp [Array.getD, hi]
  have hsplit := r
  unfold Rise at hsplit
  rw [← List.take_append_drop (SetTable.below xs j) xs.toList] at hsplit
  refine el_AA (List.pairwise_append.mp hsplit) fun p1 p2 p3 => ?_
  refine List.pairwise_append.mpr ⟨p1, List.pairwise_cons.mpr ⟨fun y hy => ?_, p2⟩, fun a ha b hb => ?_⟩
  · obtain ⟨i, hi, e⟩ := List.mem_iff_getElem.mp hy
    rw [List.getElem_drop] at e
    rw [List.length_drop, Array.length_toList] at hi
    have hlt : SetTable.below xs j + i < xs.size := Nat.add_lt_of_lt_sub' hi
    have := h2 _ (Nat.le_add_right _ i) hlt
    rw [← hget _ hlt, e] at this
    have hne : y ≠ j := fun q => hn (q ▸ List.mem_of_mem_drop hy)
    exact Nat.lt_of_le_of_ne this hne.symm
  · rcases List.mem_cons.mp hb with rfl | hb
    · obtain ⟨i, hi, e⟩ := List.mem_iff_getElem.mp ha
      rw [List.getElem_take] at e
      rw [List.length_take, Array.length_toList] at hi
      have hlt : i < SetTable.below xs b := Nat.lt_of_lt_of_le hi (Nat.min_le_left _ _)
      have := h1 i hlt
      rw [← hget i (by exact lin [_,_,_] (.h 1 0 (.v 0) (.v 1) (.h 1 1 (.v 2) (.v 0) (.g 1 1 (.v 2) (.v 1)))) rfl h0 hlt), e] at this
      exact this
    · exact p3 a ha b hb
theorem slot_empty {t : SetTable} (r : Rise t.place) {j : Nat} (h : t.slot j = .empty) : j ∉ t.place.toList := by
  intro hm
  refine el_AA (below_spec r j) fun h0 h1 h2 => ?_
  obtain ⟨m, hm', e⟩ := List.mem_iff_getElem.mp hm
  have hms : m < t.place.size := by simpa using hm'
  have e : t.place.getD m 0 = j := by rw [← e]; simp [Array.getD, hms]
  have hle : SetTable.below t.place j ≤ m := by
    rcases Nat.lt_or_ge m (SetTable.below t.place j) with h | h
    · have := h1 m h; exact (Nat.ne_of_lt this e).elim
    · exact h
  have heq : SetTable.below t.place j = m := by
    rcases Nat.lt_or_ge (SetTable.below t.place j) m with h | h
    · have a := h2 _ (Nat.le_refl _) (by exact lin [_,_,_] (.h 1 1 (.v 0) (.v 1) (.h 1 0 (.v 2) (.v 0) (.g 1 1 (.v 2) (.v 1)))) rfl hms hle)
      have b := r.lt h hms
      exact (Nat.lt_irrefl _ (Nat.lt_of_le_of_lt a (Nat.lt_of_lt_of_eq b e))).elim
    · exact Nat.le_antisymm (lin [_,_] (.h 1 0 (.v 0) (.v 1) (.g 1 0 (.v 0) (.v 1))) rfl hle) (lin [_,_] (.h 1 0 (.v 0) (.v 1) (.g 1 0 (.v 0) (.v 1))) rfl h)
  have hg : t.place[SetTable.below t.place j]? = some j := by
    rw [heq, Array.getElem?_eq_getElem hms]
    simp [Array.getD, hms] at e
    rw [e]
  unfold SetTable.slot at h
  simp only [hg, beq_self_eq_true, if_true] at h
  cases h
theorem probe_empty {t : SetTable} (hd : t.dummies = #[]) {f : Nat → Int} {h : Int} : ∀ (n : Nat) (p : SetTable.Probe) (j : Nat) (d : Option Nat), p.dummy = none → SetTable.probe.go t f h n p = some (.empty j d) → d = none ∧ t.slot j = .empty
  | 0, p, j, d, _, e => by unfold SetTable.probe.go at e; cases e
  | n + 1, p, j, d, hp, e => by
    unfold SetTable.probe.go at e
    split at e
    · rename_i hs
      cases e
      exact ⟨hp, hs⟩
    · rename_i hs
      unfold SetTable.slot at hs
      simp only at hs
      split at hs
      · cases hs
      · split at hs
        · rename_i hh
          rw [hd] at hh
          simp [SetTable.has] at hh
        · cases hs
    · split at e
      · cases e
      · refine probe_empty hd n _ j d ?_ e
        unfold SetTable.advance
        split
        · exact hp
        · exact hp
structure TabOk (led0 : Bool) (t : SetTable) : Prop where
  led : t.led = led0
  rise : t.plain = true → Rise t.place ∧ t.dummies = #[]
theorem tabOk_fresh (led : Bool) : TabOk led (.fresh 0 0 led) := ⟨rfl, fun _ => ⟨List.Pairwise.nil, rfl⟩⟩
theorem tabOk_standIn {led : Bool} {t : SetTable} (k : TabOk led t) (n : Nat) : TabOk led (t.standIn n) := ⟨k.led, fun h => by simp [SetTable.standIn] at h⟩
theorem tabOk_put {led : Bool} {t : SetTable} (k : TabOk led t) {j : Nat} (hj : t.plain = true → j ∉ t.place.toList) : TabOk led (t.put j).1 := by
  refine ⟨k.led, fun h => ?_⟩
  have h : t.plain = true := h
  obtain ⟨r, d⟩ := k.rise h
  refine ⟨rise_insert r (hj h), ?_⟩
  show (if SetTable.has t.dummies j then _ else t.dummies) = #[]
  rw [d]
  simp [SetTable.has]
theorem tabOk_layNew {led : Bool} {t : SetTable} (k : TabOk led t) (es : Array (Int × Value)) (h : Int) (x : Value) : TabOk led (layNew t es h x).2.1 := by
  unfold layNew
  split
  · rename_i slot wd hfs
    dsimp only
    unfold SetTable.orStandIn
    have hput : TabOk led (t.put slot).1 := by
      refine tabOk_put k fun hp => ?_
      obtain ⟨r, d⟩ := k.rise hp
      unfold SetTable.freeSlot at hfs
      split at hfs
      · rename_i j dm hpr
        cases hfs
        refine el_A (probe_empty d _ _ _ _ rfl hpr) fun hq0_ hs => ?_
        refine eq_l hq0_ ?_
        exact slot_empty r hs
      · cases hfs
    split
    · exact hput
    · exact tabOk_standIn hput _
  · exact tabOk_standIn k _
theorem tabOk_relayAll {led : Bool} {t : SetTable} (k : TabOk led t) (es : Array (Int × Value)) (wanted : Nat) : TabOk led (relayAll t es wanted).2.1 := by
  unfold relayAll
  split
  · rename_i t' order hr
    dsimp only
    split
    · unfold SetTable.relaid SetTable.laid at hr
      refine el_EA (Option.bind_eq_some_iff.mp hr) fun owner ho e => ?_
      cases e
      refine ⟨k.led, fun _ => ⟨?_, rfl⟩⟩
      unfold Rise
      show (((List.range _).filterMap _).map Prod.fst).toArray.toList.Pairwise _
      rw [List.map_filterMap]
      refine List.Pairwise.filterMap _ (fun a b hab c hc d hd => ?_) List.pairwise_lt_range
      simp only [Option.map_eq_some_iff] at hc hd
      refine el_EA hc fun p hn1_ hq2_ => ?_
      obtain ⟨_, _, rfl⟩ := hn1_
      refine eq_r hq2_ ?_
      obtain ⟨q, ⟨_, _, rfl⟩, rfl⟩ := hd
      exact hab
    · exact tabOk_standIn k _
  · exact tabOk_standIn k _
end Mine
end
section
open PySem PySem.W PyProof.Rows PySem.Spec
set_option maxRecDepth 100000
namespace Mine
noncomputable def SetI (prog : Program) (w : World) (led0 : Bool) (h : Heap) (a : Addr) (ks : List Int) : Prop :=
  ∃ es ep t, h.get? a = some { cls := .type "set", data := .set es ep t } ∧ ElemsOf (intKind prog w) es.toList ∧ es.size < scanBound ∧ t.fits es.size = true ∧ TabOk led0 t ∧
    ks.Nodup ∧ (∀ k, k ∈ ks ↔ ∃ e ∈ es.toList, (intKind prog w).is k e.2 = true) ∧ es.size = ks.length
section
variable {w : World} {A : Around} {E : Value → Shared → Prop} {s : Shared} {led0 : Bool}
theorem setI_store {h : Heap} {a : Addr} {es : Array (Int × Value)} {ep : Nat} {t : SetTable} (ho : h.get? a = some { cls := .type "set", data := .set es ep t })
    {es' : Array (Int × Value)} {t' : SetTable} {ks : List Int} (hel : ElemsOf (intKind prog w) es'.toList) (hb : es'.size < scanBound) (hf : t'.fits es'.size = true) (ht : TabOk led0 t')
    (hn : ks.Nodup) (hm : ∀ k, k ∈ ks ↔ ∃ e ∈ es'.toList, (intKind prog w).is k e.2 = true) (hl : es'.size = ks.length) :
    (h.update a (Obj.putSet es' t')).get? a = some { cls := .type "set", data := .set es' (ep + 1) t' } ∧ SetI prog w led0 (h.update a (Obj.putSet es' t')) a ks := by
  have hg : (h.update a (Obj.putSet es' t')).get? a = some { cls := .type "set", data := .set es' (ep + 1) t' } := by
    have := Heap.get?_update_self (Obj.putSet es' t') ho (by rw [putSet_of es' t' rfl]; rfl)
    rw [putSet_of es' t' rfl] at this; exact this
  exact in_AEEEAA hg es' (ep + 1) t' hg hel (in_AAAAA hb hf ht hn hm hl)
theorem addTail_int {g : Bool → Sem Unit} (hg : ∀ (b : Bool) (s₁ : Shared) (Q' : Unit → Shared → Prop), Q' () s₁ → wpAny (model prog w) A (g b) Q' E s₁)
    {a : Addr} {es : Array (Int × Value)} {ep : Nat} {t : SetTable} (ho : s.heap.get? a = some { cls := .type "set", data := .set es ep t })
    {es1 : Array (Int × Value)} {t2 : SetTable} {ks : List Int} (hel1 : ElemsOf (intKind prog w) es1.toList) (hb1 : es1.size < scanBound) (hf2 : t2.fits es1.size = true) (ht2 : TabOk led0 t2)
    (hn : ks.Nodup) (hm : ∀ k, k ∈ ks ↔ ∃ e ∈ es1.toList, (intKind prog w).is k e.2 = true) (hl : es1.size = ks.length) {wasDummy : Bool} {R : Option Bool → Shared → Prop}
    (h : ∀ h', Heap.SameBut a s.heap h' → SetI prog w led0 h' a ks → R (some true) { s with heap := h' }) :
    wpAny (model prog w) A (do
        storeSet a es1 t2
        if (!wasDummy && t2.tooFull) = true then do
            g (relayAll t2 es1 (SetTable.grown es1.size)).2.2
            storeSet a (relayAll t2 es1 (SetTable.grown es1.size)).1 (relayAll t2 es1 (SetTable.grown es1.size)).2.1
            pure (some true)
          else pure (some true)) R E s := by
  refine wpAny_bind (wpAny_storeSet_of ho rfl ?_ (fits_of_scanBound hb1))
  obtain ⟨ho1, hS1⟩ := setI_store ho hel1 hb1 hf2 ht2 hn hm hl
  have hsb1 := Heap.SameBut.update s.heap a (Obj.putSet es1 t2)
  split
  · have hp := relayAll_perm t2 es1 (SetTable.grown es1.size)
    have hfr := relayAll_fits t2 es1 (SetTable.grown es1.size)
    have htr := tabOk_relayAll ht2 es1 (SetTable.grown es1.size)
    generalize relayAll t2 es1 (SetTable.grown es1.size) = Rl at hp hfr htr ⊢
    obtain ⟨es2, t3, gave2⟩ := Rl
    dsimp only at hp hfr htr ⊢
    have hsz : es2.size = es1.size := by rw [← Array.length_toList, hp.length_eq, Array.length_toList]
    have hb2 : es2.size < scanBound := by rw [hsz]; exact hb1
    refine wpAny_bind (hg _ _ _ ?_)
    refine wpAny_bind (wpAny_storeSet_of ho1 rfl ?_ (fits_of_scanBound hb2))
    obtain ⟨_, hS2⟩ := setI_store (w := w) (ks := ks) ho1 (hel1.perm hp) hb2 hfr htr hn
      (fun k => (hm k).trans ⟨fun ⟨e, he, q⟩ => ⟨e, hp.mem_iff.mpr he, q⟩, fun ⟨e, he, q⟩ => ⟨e, hp.mem_iff.mp he, q⟩⟩) (hsz.trans hl)
    exact wpAny_pure (h _ (hsb1.trans (Heap.SameBut.update _ a _)) hS2)
  · exact wpAny_pure (h _ hsb1 hS1)
noncomputable def more (ks : List Int) (k : Int) : List Int := if k ∈ ks then ks else ks ++ [k]
theorem setAdd_int {a : Addr} {ks : List Int} {k : Int} {x : Value} {Q : Bool → Shared → Prop} (hkey : (intKind prog w).is k x = true) (hsc : x.scannable = true) (hS : SetI prog w led0 s.heap a ks)
    (hroom : ks.length + 1 < scanBound) (h : ∀ b h', Heap.SameBut a s.heap h' → SetI prog w led0 h' a (more ks k) → Q b { s with heap := h' }) :
    wpAny (model prog w) A (setAddHashed a x ((intKind prog w).hash k)) Q E s := by
  refine el_EEEAAA hS fun es ep t ho hel hb hr1_ => ?_
  refine el_AAAA hr1_ fun hf ht hnd hm hl => ?_
  unfold setAddHashed setAddHashedIn
  refine wpAny_holding (wpAny_bind (wpAny_setState_of ho rfl hf ?_))
  dsimp only
  rw [byScan_of hsc hb hel]
  simp only [↓reduceIte]
  unfold setAddByScan
  refine wpAny_bind ?_
  refine wpAny_bind (wpAny_rule ?_)
  refine wpAny_bind (wpAny_setScan_of hkey ho rfl hf hel ?_)
  cases hr : List.findIdx? (fun e => (intKind prog w).is k e.2) es.toList with
  | some j =>
    dsimp only
    refine el_EA (List.findIdx?_eq_some_iff_getElem.mp hr) fun hj hpj _ => ?_
    have hk : k ∈ ks := (hm k).mpr ⟨es.toList[j], List.getElem_mem hj, hpj⟩
    refine wpAny_pure (wpAny_pure ?_)
    have e : s = { s with heap := s.heap } := by cases s; rfl
    rw [e]
    refine h _ s.heap (Heap.SameBut.refl a s.heap) ?_
    unfold more
    rw [if_pos hk]
    exact in_EEEAAA es ep t ho hel hb (in_AAAA hf ht hnd hm hl)
  | none =>
    dsimp only
    have hk : k ∉ ks := fun q => by
      refine el_EA ((hm k).mp q) fun e he hp => ?_
      have := List.findIdx?_eq_none_iff.mp hr e he; rw [hp] at this; cases this
    have hgw : ∀ (b : Bool) {s₁ : Shared} {Q' : Unit → Shared → Prop}, Q' () s₁ → wpAny (model prog w) A (match b with | true => rule "set.scan.the-table-gave-way" | false => pure ()) Q' E s₁ :=
      fun b s₁ Q' hq => by cases b <;> first | exact wpAny_pure hq | exact wpAny_rule hq
    have hperm := layNew_perm t es ((intKind prog w).hash k) x
    have hfits := layNew_fits t es ((intKind prog w).hash k) x
    have htab := tabOk_layNew ht es ((intKind prog w).hash k) x
    generalize layNew t es ((intKind prog w).hash k) x = L at hperm hfits htab ⊢
    obtain ⟨es1, t1, wasDummy, gave⟩ := L
    dsimp only at hperm hfits htab ⊢
    rw [Array.toList_push] at hperm
    have hel1 : ElemsOf (intKind prog w) es1.toList := (hel.push hkey hsc).perm hperm
    have hsz : es1.size = ks.length + 1 := by rw [← Array.length_toList, hperm.length_eq, List.length_append, Array.length_toList, hl]; rfl
    have hb1 : es1.size < scanBound := by rw [hsz]; exact hroom
    have hmore : more ks k = ks ++ [k] := by unfold more; rw [if_neg hk]
    have hn1 : (more ks k).Nodup := by
      rw [hmore]
      exact List.nodup_append.mpr ⟨hnd, by simp, fun a ha b hb => by rw [List.mem_singleton.mp hb]; exact fun q => hk (q ▸ ha)⟩
    have hm1 : ∀ k', k' ∈ more ks k ↔ ∃ e ∈ es1.toList, (intKind prog w).is k' e.2 = true := fun k' => by
      rw [hmore, List.mem_append, hm k', List.mem_singleton]
      constructor
      · rintro (⟨e, he, hp⟩ | rfl)
        · exact ⟨e, hperm.mem_iff.mpr (List.mem_append_left _ he), hp⟩
        · exact ⟨((intKind prog w).hash k', x), hperm.mem_iff.mpr (List.mem_append_right _ (List.mem_singleton.mpr rfl)), hkey⟩
      · intro hri_
        refine el_EA hri_ fun e he hp => ?_
        rcases List.mem_append.mp (hperm.mem_iff.mp he) with he | he
        · exact .inl ⟨e, he, hp⟩
        · rw [List.mem_singleton] at he; subst he
          exact .inr ((intKind prog w).inj x k' k hp hkey)
    have hl1 : es1.size = (more ks k).length := by rw [hmore, hsz, List.length_append]; rfl
    refine wpAny_bind (hgw _ ?_)
    split
    · refine wpAny_bind ?_
      rw [hashByValue_scannable 8 hsc]
      refine wpAny_pure ?_
      refine addTail_int (led0 := led0) ?_ ho hel1 hb1 ?_ ?_ hn1 hm1 hl1 fun h' hsb hS' => ?_
      · intro b s₁ Q' hq; cases b <;> first | exact wpAny_pure hq | exact wpAny_rule hq
      · split
        · exact hfits
        · exact SetTable.fits_plain_off hfits
      · split
        · exact htab
        · exact ⟨htab.led, fun h => by simp at h⟩
      · dsimp only; exact wpAny_pure (h _ h' hsb hS')
    · refine wpAny_bind (wpAny_pure ?_)
      simp only [↓reduceIte]
      refine addTail_int (led0 := led0) ?_ ho hel1 hb1 hfits htab hn1 hm1 hl1 fun h' hsb hS' => ?_
      · intro b s₁ Q' hq; cases b <;> first | exact wpAny_pure hq | exact wpAny_rule hq
      · dsimp only; exact wpAny_pure (h _ h' hsb hS')
end
end Mine
end
section
open PySem PySem.W PyProof.Rows PySem.Spec
set_option maxRecDepth 100000
namespace Mine
noncomputable def metBy (val : Nat → Int) (i : Nat) : List Int := ((List.range i).map val).foldl more []
theorem metBy_succ (val : Nat → Int) (i : Nat) : metBy val (i + 1) = more (metBy val i) (val i) := by
  unfold metBy; rw [List.range_succ, List.map_append, List.foldl_append]; rfl
theorem metBy_len (val : Nat → Int) : ∀ i, (metBy val i).length ≤ i
  | 0 => Nat.le_refl _
  | i + 1 => by
    rw [metBy_succ]; unfold more
    have := metBy_len val i
    split
    · exact lin [_,_] (.h 1 0 (.v 0) (.v 1) (.g 1 0 (.v 0) (.a (.v 1) (.c 1)))) rfl this
    · rw [List.length_append, List.length_singleton]; exact lin [_,_] (.h 1 0 (.v 0) (.v 1) (.g 1 0 (.a (.v 0) (.c 1)) (.a (.v 1) (.c 1)))) rfl this
theorem metBy_mem (val : Nat → Int) : ∀ (i : Nat) (k : Int), k ∈ metBy val i ↔ ∃ j, j < i ∧ val j = k
  | 0, k => by simp [metBy]
  | i + 1, k => by
    have ih := metBy_mem val i
    have e : k ∈ metBy val (i + 1) ↔ k ∈ metBy val i ∨ k = val i := by
      rw [metBy_succ]; unfold more
      split
      · rename_i h
        constructor
        · exact .inl
        · rintro (h' | rfl)
          · exact h'
          · exact h
      · simp
    rw [e, ih]
    constructor
    · rintro (⟨j, hj, e⟩ | rfl)
      · exact ⟨j, Nat.lt_succ_of_lt hj, e⟩
      · exact ⟨i, Nat.lt_succ_self i, rfl⟩
    · rintro ⟨j, hj, hjk⟩
      by_cases h : j = i
      · subst h; exact .inr hjk.symm
      · exact .inl ⟨j, Nat.lt_of_le_of_ne (Nat.le_of_lt_succ hj) h, hjk⟩
section
variable {w : World} {A : Around} {E : Value → Shared → Prop} {s : Shared} {led0 : Bool} {R : Result → Shared → Prop} {I : Addr} {fp wr : List Addr} {G : Array GenState → Array GenState → Prop} {n : Nat} {P : Nat → Value → Prop} {St : Nat → Shared → Prop}
theorem SetI.at {h h' : Heap} {a : Addr} {ks : List Int} (x : SetI prog w led0 h a ks) (e : ∀ o, h.get? a = some o → h'.get? a = some o) : SetI prog w led0 h' a ks :=
  let ⟨es, ep, t, ho, r⟩ := x; ⟨es, ep, t, e _ ho, r⟩
theorem update_loop_int (W : WalksS prog w A.in1 I fp wr G n P St) (S : Addr) (hSf : S ∉ fp)
    (val : Nat → Int) (hval : ∀ i v, P i v → ∃ t, v = .int (val i) t) (hb : n + 1 < scanBound) :
    ∀ (k i : Nat) (s : Shared), n - i = k → i ≤ n → St i s → SetI prog w led0 s.heap S (metBy val i) →
      (∀ s', Moved (S :: wr) G s s' → SetI prog w led0 s'.heap S (metBy val n) → R (.ok (.ret .none)) s') →
      codeAny (model prog w) A (.builtin "set.update.loop" ⟨[.ref S, .ref I], []⟩) R s := by
  have hSw : S ∉ wr := fun h => hSf (W.sub _ h)
  have hsub : ∀ b ∈ wr, b ∈ S :: wr := fun b hb => List.mem_cons_of_mem _ hb
  intro k
  induction k with
  | zero =>
    intro i s hk hi hst hS hR
    have hin : i = n := sub_nil hk hi
    subst hin
    refine codeAny_builtin F.entry_set_update_loop ?_
    rw [Around.under_plainId F.plain_set_update_loop _]
    show wpAny _ A.in1 (pyNext (.ref I) >>= _) _ _ s
    refine wpAny_bind (W.done s _ _ hst fun s' hm => ?_)
    show wpAny _ A.in1 (ret Value.none) _ _ s'
    exact wpAny_pure (hR s' (hm.mono hsub) (hS.at fun o e => hm.heap S _ hSw e))
  | succ k ih =>
    intro i s hk hi hst hS hR
    have hlt : i < n := sub_lt_of hk
    refine codeAny_builtin F.entry_set_update_loop ?_
    rw [Around.under_plainId F.plain_set_update_loop _]
    show wpAny _ A.in1 (pyNext (.ref I) >>= _) _ _ s
    refine wpAny_bind (W.item i s _ _ hlt hst fun v s' hP hst' hm => ?_)
    refine el_E (hval i v hP) fun t hq1_ => ?_
    refine eq_l hq1_ ?_
    have hS' : SetI prog w led0 s'.heap S (metBy val i) := hS.at fun o e => hm.heap S _ hSw e
    show wpAny _ A.in1 (holding [Value.int (val i) t] (setAdd S (.int (val i) t)) >>= _) _ _ s'
    refine wpAny_bind (wpAny_holding ?_)
    unfold setAdd
    refine wpAny_holding ?_
    refine wpAny_bind ((intKind prog w).pyHash (k := val i) (intKind_is _ _ _ _) ?_)
    have hroom : (metBy val i).length + 1 < scanBound := by have := metBy_len val i; exact lin [_,_,_] (.h 1 1 (.a (.v 0) (.c 1)) (.c 4096) (.h 1 0 (.v 1) (.v 0) (.h 1 0 (.v 2) (.v 1) (.g 1 1 (.a (.v 2) (.c 1)) (.c 4096))))) rfl hb hi this
    refine setAdd_int (s := { s' with toks := s'.toks + 1 }) (intKind_is _ _ _ _) rfl hS' hroom fun b h' hsb hS2 => ?_
    have hSi : SetI prog w led0 h' S (metBy val (i + 1)) := by rw [metBy_succ]; exact hS2
    refine wpAny_pure ⟨plainId_quiet F.plain_set_update_loop _, ih (i + 1) _ (sub_step hk) hlt (W.frame _ s' _ _ hst' (Nat.le_succ _) fun b hb o e => ?_) hSi fun s'' hm'' hS'' => ?_⟩
    · rw [hsb.2 b (fun h : b = S => hSf (by rw [← h]; exact hb))]; exact e
    · refine hR s'' (Moved.trans W.gtrans ((hm.mono hsub).then_heap (Nat.le_succ _) fun b o hb e => ?_) hm'') hS''
      rw [hsb.2 b (fun h : b = S => hb (by rw [h]; exact List.mem_cons_self))]; exact e
theorem set_new_led (a : Value) {Q₁ : Value → Shared → Prop}
    (h : Q₁ (.ref s.heap.objs.size) { s with heap := s.heap.push { cls := .type "set", dict := none, data := .set #[] 0 (.fresh 0 0 (!w.params.followText "set-order")) } }) :
    codeAny (model prog w) A (.call (.builtin "set.__new__") ⟨[.type "set", a], []⟩) (wants Q₁ E) s := by
  refine codeAny_of_tree ?_
  show wpAny _ A.in1 (do checkBuiltinCall "set.__new__" ⟨[.type "set", a], []⟩; again (.builtin "set.__new__" ⟨[.type "set", a], []⟩)) _ _ s
  refine wpAny_bind (wpAny_of_eq (F.newCall_set_1 a) (wpAny_pure ⟨plainId_quiet F.plain_set_new _, codeAny_builtin F.entry_set_new ?_⟩))
  rw [Around.under_plainId F.plain_set_new _]
  unfold Builtin.«set.__new__» Builtin.Frozenset.newClass
  have hsub := sub_set_self
  obtain ⟨hp, g, d, tk, os⟩ := s
  dsimp only
  wp_walk
  refine wpAny_askSetting (wpAny_pure ?_)
  dsimp only
  simp only [PySem.newObj]
  refine wpAny_bind (wpAny_alloc (wpAny_pure ?_))
  exact wpAny_pure h
set_option maxHeartbeats 3200000 in
theorem call_set_ints {l : Addr} {items : Array Value} {ns : List Int} {Q : Value → Shared → Prop}
    (hh : A.handled = none) (hl : s.heap.IsList l items) (hi : PyProof.Rows.IntsAre items.toList ns) (hb : items.size + 1 < scanBound)
    (h : ∀ (h' : Heap) (tk : Nat), SetI prog w (!w.params.followText "set-order") h' s.heap.objs.size (metBy (fun i => ns.getD i 0) items.size) →
      (∀ b o, b < s.heap.objs.size → s.heap.get? b = some o → h'.get? b = some o) → Q (.ref s.heap.objs.size) { s with heap := h', toks := tk }) :
    wpAny (model prog w) A (call (.type "set") [.ref l]) Q E s := by
  generalize hled : (!w.params.followText "set-order") = led at h
  refine el_EE F.called_set.mro fun c tl hmro => ?_
  have hmade := F.called_set.made
  have hsub := F.called_set.sub
  refine wpAny_call (codeAny_of_tree ?_)
  show wpAny _ _ (callAny (.type "set") _) _ _ _
  refine wpAny_pure ⟨Code.quiet_builtin _ (by decide +kernel), codeAny_builtin F.entry_type_call ?_⟩
  rw [Around.under_plain (weight_type_call_type "set" [.ref l] []) rfl]
  have h1 := F.called_set.notType
  have h2 := F.called_set.canCreate
  have hct := F.typeCall_set_1 (.ref l)
  repeat (any_goals (first | assumption | wp_step))
  refine codeAny_mono (set_new_led (.ref l) (E := E) (Q₁ := fun obj s₁ => obj = .ref s.heap.objs.size ∧ s₁ = { s with heap := s.heap.push { cls := .type "set", dict := none, data := .set #[] 0 (.fresh 0 0 led) } }) ⟨rfl, by rw [hled]⟩) fun r s₁ hr => ?_
  cases r with
  | error e => exact hr
  | ok fl =>
    cases fl with
    | ret obj =>
      refine el_A hr fun hq0_ hq1_ => ?_
      refine eq_l hq0_ ?_
      refine eq_l hq1_ ?_
      have hS : (s.heap.push { cls := .type "set", dict := none, data := .set #[] 0 (.fresh 0 0 led) }).get? s.heap.objs.size = some { cls := .type "set", dict := none, data := .set #[] 0 (.fresh 0 0 led) } := Heap.get?_push_size _ rfl
      have hT : Shared.TypeIs { s with heap := s.heap.push { cls := .type "set", dict := none, data := .set #[] 0 (.fresh 0 0 led) } } (.ref s.heap.objs.size) "set" := ⟨_, hS, rfl⟩
      have hli := F.called_set.init.lookup
      have hbi := F.called_set.init.bind (.ref s.heap.objs.size)
      repeat (any_goals (first | assumption | wp_step))
      refine codeAny_mono (codeAny_call_builtin (R := wants (fun r s₂ => r = .none ∧ ∃ h' tk, s₂ = { s with heap := h', toks := tk } ∧
          SetI prog w led h' s.heap.objs.size (metBy (fun i => ns.getD i 0) items.size) ∧
          (∀ b o, b < s.heap.objs.size → s.heap.get? b = some o → h'.get? b = some o)) E) F.called_set.init.plain F.entry_set_init (check_set_init_1 hT ?_)) fun r₂ s₂ hr₂ => ?_
      · refine el_EAAE hl fun ol hol hcl nl hdl => ?_
        obtain ⟨ocls, odict, odata, oslots⟩ := ol
        simp only at hcl hdl
        subst hcl; subst hdl
        have hol' : (s.heap.push { cls := .type "set", dict := none, data := .set #[] 0 (.fresh 0 0 led) }).get? l = some { cls := .type "list", dict := odict, data := .seq items nl, slots := oslots } := Heap.get?_push_of_some _ hol
        have hsls := F.sub_list_set
        have hslf := F.sub_list_frozenset
        have hne : (Value.type "list" == Value.type "dict") = false := by decide
        have hl1 : (s.heap.push { cls := .type "set", dict := none, data := .set #[] 0 (.fresh 0 0 led) }).IsList l items := ⟨_, hol', rfl, nl, rfl⟩
        unfold Builtin.«set.__init__» noKeywords Builtin.Frozenset.updateFrom
        generalize hPI : pyIter = PI
        wp_walk
        refine eq_r hPI ?_
        refine wpAny_pyIter_list hl1 ?_
        refine wpAny_bind (wpAny_runValue ?_)
        have hlS : l < s.heap.objs.size := Heap.lt_size hol
        have hh3 : A.in1.in1.in1.handled = none := by simp [hh]
        have hneI : l ≠ (s.heap.push { cls := .type "set", dict := none, data := .set #[] 0 (.fresh 0 0 led) }).objs.size := by
          rw [Heap.size_push]; exact Nat.ne_of_lt (Nat.lt_succ_of_lt hlS)
        have hSf : s.heap.objs.size ∉ [(s.heap.push { cls := .type "set", dict := none, data := .set #[] 0 (.fresh 0 0 led) }).objs.size, l] := by
          rw [Heap.size_push]; simp only [List.mem_cons, List.not_mem_nil, or_false, not_or]
          exact ⟨Nat.ne_of_lt (Nat.lt_succ_self _), Nat.ne_of_gt hlS⟩
        have hval : ∀ (i : Nat) (v : Value), items[i]? = some v → ∃ t, v = .int ((fun i => ns.getD i 0) i) t := fun i v hv =>
          PyProof.Rows.IntsAre.int_at hi i v (by rw [Array.getElem?_toList]; exact hv)
        refine update_loop_int (led0 := led) ((Walks.list hh3 _ l hneI items).toS) s.heap.objs.size
          hSf (fun i => ns.getD i 0) hval hb (items.size - 0) 0 _ (by exact Nat.le_antisymm (lin [_] (.g 1 0 (.v 0) (.v 0)) rfl) (lin [_] (.g 1 0 (.v 0) (.v 0)) rfl)) (Nat.zero_le _)
          ⟨⟨_, Heap.get?_push_size _ rfl, rfl, rfl⟩, (hl1.push _)⟩ ?hS0 ?hR
        case hS0 =>
          have hget : ((s.heap.push { cls := .type "set", dict := none, data := .set #[] 0 (.fresh 0 0 led) }).push { cls := .type "list_iterator", data := .fields #[.ref l, .int 0 0] }).get? s.heap.objs.size
              = some { cls := .type "set", dict := none, data := .set #[] 0 (.fresh 0 0 led) } := Heap.get?_push_of_some _ hS
          exact ⟨#[], 0, _, hget, fun e he => by simp at he, by decide, rfl, tabOk_fresh led, List.nodup_nil, fun k => by simp [metBy], rfl⟩
        case hR =>
          intro s' hm hS'
          obtain ⟨h', g', d', tk', os'⟩ := s'
          have eg : g' = s.gens := hm.gens
          have ed : d' = s.drawn := hm.drawn
          have eo : os' = s.os := hm.os
          subst eg; subst ed; subst eo
          show wpAny _ _ _ _ _ _
          refine wpAny_pure ?_
          show wpAny _ _ (ret Value.none) _ _ _
          refine wpAny_pure ⟨rfl, h', tk', rfl, hS', fun b o hb e => ?_⟩
          have hb1 : b ≠ s.heap.objs.size := Nat.ne_of_lt hb
          have hb2 : b ≠ (s.heap.push { cls := .type "set", dict := none, data := .set #[] 0 (.fresh 0 0 led) }).objs.size := by
            rw [Heap.size_push]; exact Nat.ne_of_lt (Nat.lt_succ_of_lt hb)
          exact hm.heap b o (by simp only [List.mem_cons, List.not_mem_nil, or_false, not_or]; exact ⟨hb1, hb2⟩) (Heap.get?_push_of_some _ (Heap.get?_push_of_some _ e))
      · cases r₂ with
        | error e => exact hr₂
        | ok fl₂ =>
          cases fl₂ with
          | ret r =>
            refine el_AEEAA hr₂ fun hq0_ h' tk hq3_ hS' hk' => ?_
            refine eq_l hq0_ ?_
            refine eq_l hq3_ ?_
            repeat (any_goals (first | assumption | wp_step))
            exact h _ _ hS' hk'
          | _ => exact hr₂.elim
    | _ => exact hr.elim
end
end Mine
end
section
open PySem PySem.W PyProof.Rows PySem.Spec
set_option maxRecDepth 100000
namespace Mine
theorem erase_perm {α : Type} : ∀ {l : List α} {i : Nat} (h : i < l.length), (l[i] :: l.eraseIdx i).Perm l
  | x :: l, 0, _ => by simp
  | x :: l, i + 1, h => by
    have := erase_perm (l := l) (i := i) (by simpa using h)
    simp only [List.getElem_cons_succ, List.eraseIdx_cons_succ]
    exact (List.Perm.swap _ _ _).trans (this.cons x)
theorem pickGo_perm {α : Type} (next : Nat → Nat) : ∀ (fuel k : Nat) (left : List α) (out : Array α), left.length ≤ fuel → (pickOrder.go next fuel k left out).toList.Perm (out.toList ++ left)
  | 0, k, left, out, h => by
    have : left = [] := List.length_eq_zero_iff.mp (Nat.le_zero.mp h)
    refine eq_l this ?_
    rw [List.append_nil]; exact List.Perm.refl _
  | fuel + 1, k, left, out, h => by
    show (match left[next k % left.length]? with
      | some x => pickOrder.go next fuel (k + 1) (left.eraseIdx (next k % left.length)) (out.push x)
      | none => out).toList.Perm _
    cases hx : left[next k % left.length]? with
    | some x =>
      have hlt := (List.getElem?_eq_some_iff.mp hx).1
      have hxe := (List.getElem?_eq_some_iff.mp hx).2
      refine (pickGo_perm next fuel (k + 1) _ _ ?_).trans ?_
      · rw [List.length_eraseIdx_of_lt hlt]; exact Nat.pred_le_pred h
      · rw [Array.toList_push, List.append_assoc]
        refine List.Perm.append_left _ ?_
        rw [← hxe]
        exact erase_perm hlt
    | none =>
      have : left = [] := by
        cases left with
        | nil => rfl
        | cons a r =>
          have hlt : next k % (a :: r).length < (a :: r).length := Nat.mod_lt _ (by simp)
          rw [List.getElem?_eq_getElem hlt] at hx; cases hx
      refine eq_l this ?_
      simp
theorem pickOrder_perm {α : Type} (next : Nat → Nat) (xs : Array α) : (pickOrder next xs).toList.Perm xs.toList := by
  unfold pickOrder
  have := pickGo_perm next xs.size 0 xs.toList #[] (by simp)
  simpa using this
theorem wpAny_choose {M : Model} {A : Around} {E : Value → Shared → Prop} {s : Shared} {src : Source} {n : Nat} {Q : Nat → Shared → Prop} (hn : n ≠ 0) (h : ∀ i d, i < n → Q i { s with drawn := d }) :
    wpAny M A (choose src n) Q E s := fun Γ p _ => by
  unfold choose
  rw [Sem.wp_choose]
  exact ⟨hn, h _ _ (Nat.mod_lt _ (Nat.pos_of_ne_zero hn))⟩
theorem drawOrder_spec {M : Model} {A : Around} {E : Value → Shared → Prop} {α : Type} : ∀ (n : Nat) (xs : List α) {s : Shared} {Q : List α → Shared → Prop}, xs.length ≤ n →
    (∀ d ys, ys.Perm xs → Q ys { s with drawn := d }) → wpAny M A (drawOrder n xs) Q E s
  | 0, xs, s, Q, hl, h => by
    have : xs = [] := List.length_eq_zero_iff.mp (Nat.le_zero.mp hl)
    subst this
    exact wpAny_pure (h s.drawn [] (List.Perm.refl _))
  | n + 1, [], s, Q, hl, h => by
    exact wpAny_pure (h s.drawn [] (List.Perm.refl _))
  | n + 1, x :: xs, s, Q, hl, h => by
    refine wpAny_bind (wpAny_choose (by simp) fun i d hi => ?_)
    rw [List.getElem?_eq_getElem hi]
    dsimp only
    refine wpAny_bind (drawOrder_spec n ((x :: xs).eraseIdx i) (by rw [List.length_eraseIdx_of_lt hi]; simp at hl ⊢; exact lin [_,_] (.h 1 0 (.v 0) (.v 1) (.g 1 0 (.v 0) (.v 1))) rfl hl) fun d' ys hp => ?_)
    exact wpAny_pure (h d' _ ((hp.cons _).trans (erase_perm hi)))
section
variable {w : World} {A : Around} {E : Value → Shared → Prop} {s : Shared}
theorem wpAny_byText {Q : Bool → Shared → Prop} (h : Q (w.params.followText "set-order") s) : wpAny (model prog w) A setsByText Q E s := by
  unfold setsByText
  exact wpAny_bind (wpAny_askSetting (wpAny_pure h))
noncomputable def SetAt (h : Heap) (S : Addr) (es : Array (Int × Value)) (ep : Nat) (t : SetTable) : Prop := h.get? S = some { cls := .type "set", data := .set es ep t } ∧ t.fits es.size = true
theorem next_text (ht : w.params.followText "set-order" = true) {S : Addr} {es : Array (Int × Value)} {ep : Nat} {t : SetTable} (hS : SetAt s.heap S es ep t) {slot i : Nat} {Q : Option (Value × Nat) → Shared → Prop}
    (h : Q ((pickOrder (w.params.setOrder S ep) es)[i]?.map fun e => (e.2, slot)) s) : wpAny (model prog w) A (setNext S slot i ep) Q E s := by
  unfold setNext
  refine wpAny_bind (wpAny_setState_of hS.1 rfl hS.2 ?_)
  refine wpAny_bind (wpAny_byText ?_)
  rw [ht]
  rw [if_pos rfl]; rw [bne_self_eq_false, if_neg Bool.false_ne_true]
  unfold setWalk
  refine wpAny_bind (wpAny_bind (wpAny_setState_of hS.1 rfl hS.2 ?_))
  refine wpAny_bind (wpAny_byText ?_)
  rw [ht]
  simp only [if_true]
  refine wpAny_bind (wpAny_askSetting ?_)
  exact wpAny_pure (wpAny_pure h)
theorem next_places (ht : w.params.followText "set-order" = false) {S : Addr} {es : Array (Int × Value)} {ep : Nat} {t : SetTable} (hS : SetAt s.heap S es ep t) (hp : (!t.plain && decide (es.size > 1)) = false) (hl : t.led = true) {slot i : Nat} {Q : Option (Value × Nat) → Shared → Prop}
    (h : Q (match es[SetTable.below t.place slot]?, t.place[SetTable.below t.place slot]? with | some (_, x), some j => some (x, j + 1) | _, _ => none) s) : wpAny (model prog w) A (setNext S slot i ep) Q E s := by
  unfold setNext
  refine wpAny_bind (wpAny_setState_of hS.1 rfl hS.2 ?_)
  refine wpAny_bind (wpAny_byText ?_)
  rw [ht]
  rw [if_neg Bool.false_ne_true]
  split
  · rename_i hd
    exact absurd (show (!t.plain && decide (es.size > 1)) = true from hd) (by rw [hp]; decide)
  · refine wpAny_bind ?_
    show wpAny _ _ (if (!t.led && !es.isEmpty) = true then _ else pure ()) _ _ _
    rw [hl]
    exact wpAny_pure (wpAny_pure h)
theorem wpAny_setDrawn {S : Addr} {es : Array (Int × Value)} {ep : Nat} {t : SetTable} (hS : SetAt s.heap S es ep t) {Q : Bool → Shared → Prop}
    (h : Q (!(w.params.followText "set-order") && (!t.plain && decide (es.size > 1))) s) : wpAny (model prog w) A (setDrawn S) Q E s := by
  unfold setDrawn
  refine wpAny_bind (wpAny_setState_of hS.1 rfl hS.2 ?_)
  exact wpAny_bind (wpAny_byText (wpAny_pure h))
theorem next_drawn {S : Addr} {es : Array (Int × Value)} {ep : Nat} {t : SetTable} (hS : SetAt s.heap S es ep t) {i : Nat} {e : Int × Value} {Q : Value → Shared → Prop} (he : es[i]? = some e)
    (h : Q e.2 s) : wpAny (model prog w) A (setNextDrawn S i ep) Q E s := by
  unfold setNextDrawn
  refine wpAny_bind (wpAny_setState_of hS.1 rfl hS.2 ?_)
  simp only [bne_self_eq_false, Bool.false_eq_true, if_false, he]
  exact wpAny_pure h
theorem slot_setiter_next : Slot "set_iterator" "__next__" "set_iterator.__next__" :=
  .of (owner := "set_iterator") (n := "__next__") (by rw [typeLookup_type, builtinLookup_eq_fast]; kernel_rfl) (by decide +kernel) (by decide +kernel) (by decide +kernel)
    (by first | exact .inl (by decide +kernel) | exact .inr (by decide +kernel)) (by rw [isSubtype_type]; kernel_rfl)
theorem slot_set_iter : Slot "set" "__iter__" "set.__iter__" :=
  .of (owner := "set") (n := "__iter__") (by rw [typeLookup_type, builtinLookup_eq_fast]; kernel_rfl) (by decide +kernel) (by decide +kernel) (by decide +kernel)
    (by first | exact .inl (by decide +kernel) | exact .inr (by decide +kernel)) (by rw [isSubtype_type]; kernel_rfl)
theorem slot_setiter_iter : Slot "set_iterator" "__iter__" "set_iterator.__iter__" :=
  .of (owner := "set_iterator") (n := "__iter__") (by rw [typeLookup_type, builtinLookup_eq_fast]; kernel_rfl) (by decide +kernel) (by decide +kernel) (by decide +kernel)
    (by first | exact .inl (by decide +kernel) | exact .inr (by decide +kernel)) (by rw [isSubtype_type]; kernel_rfl)
theorem entry_setiter_next : entryFor table "set_iterator.__next__" = some Builtin.«set_iterator.__next__» := entryFor_of_fast (by kernel_rfl)
theorem entry_set_iter : entryFor table "set.__iter__" = some Builtin.«frozenset.__iter__» := entryFor_alias (id' := "frozenset.__iter__") (by kernel_rfl) rfl (by decide +kernel) (by kernel_rfl)
theorem entry_setiter_iter : entryFor table "set_iterator.__iter__" = some Builtin.«dict_keyiterator.__iter__» := entryFor_alias (id' := "dict_keyiterator.__iter__") (by kernel_rfl) rfl (by decide +kernel) (by kernel_rfl)
theorem args_setiter_next (a : Value) : argsOk "set_iterator.__next__" ⟨[a], []⟩ := by unfold argsOk; kernel_rfl
theorem args_set_iter (a : Value) : argsOk "set.__iter__" ⟨[a], []⟩ := by unfold argsOk; kernel_rfl
theorem args_setiter_iter (a : Value) : argsOk "set_iterator.__iter__" ⟨[a], []⟩ := by unfold argsOk; kernel_rfl
noncomputable def iterObj (first : Value) (i : Nat) (S : Addr) (n ep : Nat) : Obj := { cls := .type "set_iterator", data := .fields #[first, .int i 0, .ref S, .int n 0, .int ep 0] }
theorem setField_at {I : Addr} {c : Value} {vs : Array Value} {k : Nat} {x : Value} {Q : Unit → Shared → Prop} (ho : s.heap.get? I = some { cls := c, data := .fields vs }) (hk : k < vs.size)
    (h : ∀ h', h'.get? I = some { cls := c, data := .fields (vs.setIfInBounds k x) } → Heap.SameBut I s.heap h' → Q () { s with heap := h' }) : wpAny (model prog w) A (setField (.ref I) k x) Q E s :=
  wpAny_setField_rec ho hk h
theorem stop_raised {α : Type} {Q : α → Shared → Prop} (hh : A.handled = none) (h : ∀ h' x, (∀ b o, s.heap.get? b = some o → h'.get? b = some o) → Shared.TypeIs { s with heap := h' } (.ref x) "StopIteration" → E (.ref x) { s with heap := h' }) :
    wpAny (model prog w) A (do raiseNew (← newExc (.type "StopIteration") []) : Sem α) Q E s := by
  refine wpAny_bind ?_
  simp only [newExc, newTuple]
  refine wpAny_bind (wpAny_newObj_type ?_ (by size_fits))
  refine wpAny_bind (m := firstArgMember _ _) (wpAny_of_eq (a := Value.none) (by first | rfl | (simp only [firstArgMember]; rfl)) ?_)
  refine wpAny_newObj_type ?_ (by size_fits)
  simp only [raiseNew]
  refine wpAny_bind (wpAny_handled ?_)
  rw [hh]
  refine wpAny_bind (wpAny_pure (wpAny_throw ?_))
  exact h _ _ (fun b o e => Heap.get?_push_of_some _ (Heap.get?_push_of_some _ e)) ⟨_, Heap.get?_push_size _ rfl, rfl⟩
end
end Mine
end
section
open PySem PySem.W PyProof.Rows PySem.Spec
set_option maxRecDepth 100000
namespace Mine
section
variable {w : World} {A : Around} {E : Value → Shared → Prop} {s : Shared}
theorem nextOf {I S : Addr} {first : Value} {i n ep : Nat} {es : Array (Int × Value)} {t : SetTable} {Q : Option Value → Shared → Prop} (ho : s.heap.get? I = some (iterObj first i S n ep)) (hS : SetAt s.heap S es ep t) (hn : es.size = n)
    (h : wpAny (model prog w) A.in1 (if let .int slot _ := first then do
        match ← setNext S slot.toNat i ep with
        | some (x, next) => setField (.ref I) 0 (rawInt next); setField (.ref I) 1 (rawInt ((i : Int) + 1)); ret x
        | none => setField (.ref I) 2 .none; raiseNew (← newExc (.type "StopIteration") [])
      else do
        let some places ← seqItems? first | unsupported "internal:set_iterator"
        match places[i]? with
        | some (.int place _) =>
          let x ← setNextDrawn S place.toNat ep
          setField (.ref I) 1 (rawInt ((i : Int) + 1))
          ret x
        | some _ => unsupported "internal:set_iterator"
        | none => setField (.ref I) 0 (rawInt 0); setField (.ref I) 2 .none; raiseNew (← newExc (.type "StopIteration") []))
      (fun r s' => ∃ v, r = .done (.ret v) ∧ Q (some v) s') (fun e s' => s'.TypeIs e "StopIteration" ∧ Q none s') s) : wpAny (model prog w) A (pyNext (.ref I)) Q E s := by
  have hT : s.TypeIs (.ref I) "set_iterator" := ⟨_, ho, rfl⟩
  unfold pyNext
  refine wpAny_bind (wpAny_attempt (wpAny_callSpecial?_slot (name := Str.ofString "__next__") hT slot_setiter_next
    (wpAny_call_entry slot_setiter_next hT entry_setiter_next ?_ (args_setiter_next _))))
  show wpAny _ _ (fieldsOf (.ref I) >>= _) _ _ s
  refine wpAny_bind (wpAny_fieldsOf ho rfl ?_)
  show wpAny _ _ (setEntries S >>= _) _ _ s
  refine wpAny_bind (wpAny_setEntries_of hS.1 rfl hS.2 ?_)
  have hne : ((es.size : Int) != (n : Int)) = false := by rw [hn]; simp
  rw [hne]
  rw [if_neg Bool.false_ne_true]
  refine wpAny_mono h ?_ ?_
  · intro r s' hri_
    refine el_EA hri_ fun v hq1_ hq => ?_
    refine eq_l hq1_ ?_
    exact ⟨v, rfl, wpAny_pure hq⟩
  · intro e s' hri_
    obtain ⟨hT, hq⟩ := hri_
    exact wpAny_bind (wpAny_isInstance (b := true) hT isSubtype_stop (wpAny_pure hq))
theorem item_int {I S : Addr} {slot nx i n ep : Nat} {tk : Tok} {es : Array (Int × Value)} {t : SetTable} {x : Value} {Q : Option Value → Shared → Prop} (ho : s.heap.get? I = some (iterObj (.int slot tk) i S n ep)) (hS : SetAt s.heap S es ep t) (hn : es.size = n)
    (hnext : ∀ (Q' : Option (Value × Nat) → Shared → Prop) (E' : Value → Shared → Prop), Q' (some (x, nx)) s → wpAny (model prog w) A.in1 (setNext S slot i ep) Q' E' s)
    (h : ∀ h', h'.get? I = some (iterObj (.int nx 0) (i + 1) S n ep) → Heap.SameBut I s.heap h' → Q (some x) { s with heap := h' }) : wpAny (model prog w) A (pyNext (.ref I)) Q E s := by
  refine nextOf ho hS hn ?_
  dsimp only
  rw [Int.toNat_natCast]
  refine wpAny_bind (hnext _ _ ?_)
  dsimp only
  refine wpAny_bind (setField_at ho (by simp) fun h1 g1 s1 => ?_)
  refine wpAny_bind (setField_at g1 (by simp) fun h2 g2 s2 => ?_)
  refine wpAny_pure ⟨x, rfl, h h2 ?_ (s1.trans s2)⟩
  rw [g2]
  simp [iterObj, rawInt]
theorem done_int {I S : Addr} {slot i n ep : Nat} {tk : Tok} {es : Array (Int × Value)} {t : SetTable} {Q : Option Value → Shared → Prop} (hh : A.handled = none) (ho : s.heap.get? I = some (iterObj (.int slot tk) i S n ep)) (hS : SetAt s.heap S es ep t) (hn : es.size = n)
    (hnext : ∀ (Q' : Option (Value × Nat) → Shared → Prop) (E' : Value → Shared → Prop), Q' none s → wpAny (model prog w) A.in1 (setNext S slot i ep) Q' E' s)
    (h : ∀ h', (∀ b o, b ≠ I → s.heap.get? b = some o → h'.get? b = some o) → Q none { s with heap := h' }) : wpAny (model prog w) A (pyNext (.ref I)) Q E s := by
  refine nextOf ho hS hn ?_
  dsimp only
  rw [Int.toNat_natCast]
  refine wpAny_bind (hnext _ _ ?_)
  dsimp only
  refine wpAny_bind (setField_at ho (by simp) fun h1 g1 s1 => ?_)
  refine stop_raised (show A.in1.handled = none from hh) fun h2 x hk hT => ⟨hT, ?_⟩
  exact h h2 fun b o hb e => hk b o ((s1.2 b hb).trans e)
noncomputable def natInts (ps : List Nat) : Array Value := (ps.map fun (i : Nat) => rawInt i).toArray
theorem item_drawn {I S p : Addr} {i n ep : Nat} {es : Array (Int × Value)} {t : SetTable} {ps : List Nat} {e : Int × Value} {j : Nat} {Q : Option Value → Shared → Prop} (ho : s.heap.get? I = some (iterObj (.ref p) i S n ep)) (hS : SetAt s.heap S es ep t) (hn : es.size = n)
    (hp : s.heap.get? p = some { cls := .type "tuple", data := .seq (natInts ps) }) (hj : ps[i]? = some j) (he : es[j]? = some e)
    (h : ∀ h', h'.get? I = some (iterObj (.ref p) (i + 1) S n ep) → Heap.SameBut I s.heap h' → Q (some e.2) { s with heap := h' }) : wpAny (model prog w) A (pyNext (.ref I)) Q E s := by
  refine nextOf ho hS hn ?_
  dsimp only
  refine wpAny_bind (wpAny_seqItems hp rfl ?_)
  have : (natInts ps)[i]? = some (.int j 0) := by unfold natInts; rw [List.getElem?_toArray, List.getElem?_map, hj]; rfl
  dsimp only
  rw [this]
  dsimp only
  rw [Int.toNat_natCast]
  refine wpAny_bind (next_drawn hS he ?_)
  refine wpAny_bind (setField_at ho (by simp) fun h2 g2 s2 => ?_)
  refine wpAny_pure ⟨e.2, rfl, h h2 ?_ s2⟩
  rw [g2]
  simp [iterObj, rawInt]
theorem done_drawn {I S p : Addr} {i n ep : Nat} {es : Array (Int × Value)} {t : SetTable} {ps : List Nat} {Q : Option Value → Shared → Prop} (hh : A.handled = none) (ho : s.heap.get? I = some (iterObj (.ref p) i S n ep)) (hS : SetAt s.heap S es ep t) (hn : es.size = n)
    (hp : s.heap.get? p = some { cls := .type "tuple", data := .seq (natInts ps) }) (hj : ps[i]? = none)
    (h : ∀ h', (∀ b o, b ≠ I → s.heap.get? b = some o → h'.get? b = some o) → Q none { s with heap := h' }) : wpAny (model prog w) A (pyNext (.ref I)) Q E s := by
  refine nextOf ho hS hn ?_
  dsimp only
  refine wpAny_bind (wpAny_seqItems hp rfl ?_)
  have : (natInts ps)[i]? = none := by unfold natInts; rw [List.getElem?_toArray, List.getElem?_map, hj]; rfl
  dsimp only
  rw [this]
  dsimp only
  refine wpAny_bind (setField_at ho (by simp) fun h1 g1 s1 => ?_)
  refine wpAny_bind (setField_at g1 (by simp) fun h2 g2 s2 => ?_)
  refine stop_raised (show A.in1.handled = none from hh) fun h3 x hk hT => ⟨hT, ?_⟩
  exact h h3 fun b o hb e => hk b o ((s2.2 b hb).trans ((s1.2 b hb).trans e))
theorem iter_self {I S : Addr} {first : Value} {i n ep : Nat} {Q : Value → Shared → Prop} (ho : s.heap.get? I = some (iterObj first i S n ep)) (h : Q (.ref I) s) : wpAny (model prog w) A (pyIter (.ref I)) Q E s := by
  have hT : s.TypeIs (.ref I) "set_iterator" := ⟨_, ho, rfl⟩
  refine wpAny_pyIter_slot hT slot_setiter_iter (wpAny_call_entry slot_setiter_iter hT entry_setiter_iter ?_ (args_setiter_iter _))
  exact wpAny_pure ⟨_, rfl, "set_iterator", _, hT, slot_setiter_next.lookup, h⟩
theorem walk_int {I S : Addr} {n ep : Nat} {es : Array (Int × Value)} {t : SetTable} (hh : A.handled = none) (hIS : S ≠ I) (hn : es.size = n) (slot : Nat → Nat) (val : Nat → Value)
    (hitem : ∀ i (s : Shared) (Q' : Option (Value × Nat) → Shared → Prop) (E' : Value → Shared → Prop), i < n → SetAt s.heap S es ep t → Q' (some (val i, slot (i + 1))) s → wpAny (model prog w) A.in1 (setNext S (slot i) i ep) Q' E' s)
    (hdone : ∀ (s : Shared) (Q' : Option (Value × Nat) → Shared → Prop) (E' : Value → Shared → Prop), SetAt s.heap S es ep t → Q' none s → wpAny (model prog w) A.in1 (setNext S (slot n) n ep) Q' E' s) :
    WalksS prog w A I [I, S] [I] (fun a b => b = a) n (fun i v => v = val i) (fun i s => s.heap.get? I = some (iterObj (.int (slot i) 0) i S n ep) ∧ SetAt s.heap S es ep t) where
  sub := fun b hb => by simp at hb; simp [hb]
  grefl := fun _ => rfl
  gtrans := fun _ _ _ a b => b.trans a
  frame := fun i s h' tk st _ hk => ⟨hk I (by simp) _ st.1, hk S (by simp) _ st.2.1, st.2.2⟩
  item := fun i s Q E hi st hQ => item_int st.1 st.2 hn (fun Q' E' q => hitem i s Q' E' hi st.2 q) fun h' g' sb => by
    refine hQ _ _ rfl ⟨g', (sb.2 S hIS).trans st.2.1, st.2.2⟩ ⟨fun b o hb e => (sb.2 b fun q => hb (by simp [q])).trans e, rfl, rfl, rfl, Nat.le_refl _⟩
  done := fun s Q E st hQ => done_int hh st.1 st.2 hn (fun Q' E' q => hdone s Q' E' st.2 q) fun h' hk => hQ _ ⟨fun b o hb e => hk b o (fun q => hb (by simp [q])) e, rfl, rfl, rfl, Nat.le_refl _⟩
  self := fun _ _ _ _ st hQ => iter_self st.1 hQ
theorem walk_drawn {I S p : Addr} {n ep : Nat} {es : Array (Int × Value)} {t : SetTable} {ps : List Nat} (hh : A.handled = none) (hIS : S ≠ I) (hIp : p ≠ I) (hn : es.size = n) (hl : ps.length = n) (hps : ∀ j ∈ ps, j < n) :
    WalksS prog w A I [I, S, p] [I] (fun a b => b = a) n (fun i v => ∃ j, ps[i]? = some j ∧ v = (es.getD j (0, .none)).2) (fun i s => s.heap.get? I = some (iterObj (.ref p) i S n ep) ∧ SetAt s.heap S es ep t ∧ s.heap.get? p = some { cls := .type "tuple", data := .seq (natInts ps) }) where
  sub := fun b hb => by simp at hb; simp [hb]
  grefl := fun _ => rfl
  gtrans := fun _ _ _ a b => b.trans a
  frame := fun i s h' tk st _ hk => ⟨hk I (by simp) _ st.1, ⟨hk S (by simp) _ st.2.1.1, st.2.1.2⟩, hk p (by simp) _ st.2.2⟩
  item := fun i s Q E hi st hQ => by
    have hj : ps[i]? = some ps[i] := List.getElem?_eq_getElem (by exact lin [_,_,_] (.h 1 3 (.v 0) (.v 1) (.h 1 1 (.v 2) (.v 1) (.g 1 1 (.v 2) (.v 0)))) rfl hl hi)
    have hjn : ps[i] < es.size := by rw [hn]; exact hps _ (List.getElem_mem _)
    refine item_drawn st.1 st.2.1 hn st.2.2 hj (Array.getElem?_eq_getElem hjn) fun h' g' sb => ?_
    exact hQ _ _ ⟨_, hj, by simp [Array.getD, hjn]⟩ ⟨g', ⟨(sb.2 S hIS).trans st.2.1.1, st.2.1.2⟩, (sb.2 p hIp).trans st.2.2⟩ ⟨fun b o hb e => (sb.2 b fun q => hb (by simp [q])).trans e, rfl, rfl, rfl, Nat.le_refl _⟩
  done := fun s Q E st hQ => done_drawn hh st.1 st.2.1 hn st.2.2 (List.getElem?_eq_none (by exact lin [_,_] (.h 1 2 (.v 0) (.v 1) (.g 1 0 (.v 0) (.v 1))) rfl hl)) fun h' hk => hQ _ ⟨fun b o hb e => hk b o (fun q => hb (by simp [q])) e, rfl, rfl, rfl, Nat.le_refl _⟩
  self := fun _ _ _ _ st hQ => iter_self st.1 hQ
end
end Mine
end
section
open PySem PySem.W PyProof.Rows PySem.Spec
set_option maxRecDepth 100000
namespace Mine
theorem addr_ne {a b : Addr} (h : @LT.lt Nat instLTNat a b) : a ≠ b := Nat.ne_of_lt h
theorem list_ext {α : Type} {xs ys : List α} (hl : xs.length = ys.length) (h : ∀ (i : Nat) (x : α), xs[i]? = some x → ys[i]? = some x) : xs = ys := by
  refine List.ext_getElem? fun i => ?_
  by_cases hi : i < xs.length
  · rw [List.getElem?_eq_getElem hi, h i _ (List.getElem?_eq_getElem hi)]
  · rw [List.getElem?_eq_none (by exact lin [_,_] (.h 1 5 (.v 0) (.v 1) (.g 1 0 (.v 1) (.v 0))) rfl hi), List.getElem?_eq_none (by exact lin [_,_,_] (.h 1 3 (.v 0) (.v 1) (.h 1 5 (.v 2) (.v 0) (.g 1 0 (.v 1) (.v 2)))) rfl hl hi)]
section
variable {w : World} {A : Around} {E : Value → Shared → Prop} {s : Shared}
theorem iter_set {B : Around} {S : Addr} {ep : Nat} {es : Array (Int × Value)} {t : SetTable} {Q : Value → Shared → Prop} (hB : B.handled = none) (hS : SetAt s.heap S es ep t) (ht : TabOk (!w.params.followText "set-order") t) (hb : es.size < scanBound)
    (h : ∀ s' I fp P St, s'.gens = s.gens → s'.os = s.os → (∀ b o, s.heap.get? b = some o → s'.heap.get? b = some o) → WalksS prog w B I fp [I] (fun a b => b = a) es.size P St → St 0 s' → s.heap.objs.size ≤ I →
      (∀ b ∈ fp, b < s'.heap.objs.size ∧ (b = S ∨ @LE.le Nat instLENat s.heap.objs.size b)) → I ∈ fp → s'.TypeIs (.ref I) "set_iterator" → (∀ vs : List Value, vs.length = es.size → (∀ i v, vs[i]? = some v → P i v) → vs.Perm (es.toList.map (·.2))) → Q (.ref I) s') :
    wpAny (model prog w) A (pyIter (.ref S)) Q E s := by
  have hT : s.TypeIs (.ref S) "set" := ⟨_, hS.1, rfl⟩
  have hlt : @LT.lt Nat instLTNat S s.heap.objs.size := Heap.lt_size hS.1
  refine wpAny_pyIter_slot hT slot_set_iter (wpAny_call_entry slot_set_iter hT entry_set_iter ?_ (args_set_iter _))
  show wpAny _ _ (Builtin.Frozenset.sizeOf S >>= _) _ _ s
  unfold Builtin.Frozenset.sizeOf
  refine wpAny_bind (wpAny_bind (wpAny_setEntries_of hS.1 rfl hS.2 (wpAny_pure ?_)))
  refine wpAny_bind (wpAny_setDrawn hS ?_)
  cases hm : (!(w.params.followText "set-order") && (!t.plain && decide (es.size > 1))) with
  | true =>
    rw [if_pos rfl]
    refine wpAny_bind (drawOrder_spec es.size (List.range es.size) (by simp) fun d ps hps => ?_)
    refine wpAny_bind (wpAny_newTuple ?_ (by simp only [List.size_toArray, List.length_map]; rw [hps.length_eq, List.length_range]; exact fits_of_scanBound hb))
    have hS1 : SetAt (s.heap.push { cls := .type "tuple", data := .seq (ps.map fun (i : Nat) => rawInt i).toArray }) S es ep t := ⟨Heap.get?_push_of_some _ hS.1, hS.2⟩
    have hp1 : (s.heap.push { cls := .type "tuple", data := .seq (ps.map fun (i : Nat) => rawInt i).toArray }).get? s.heap.objs.size = some { cls := .type "tuple", data := .seq (natInts ps) } := Heap.get?_push_size _ rfl
    refine wpAny_bind (wpAny_setEpoch_of (s := { s with drawn := d, heap := s.heap.push { cls := .type "tuple", data := .seq (ps.map fun (i : Nat) => rawInt i).toArray } }) hS1.1 rfl hS1.2 ?_)
    refine wpAny_bind (wpAny_newObj_type (wpAny_pure ⟨_, rfl, "set_iterator", _, ⟨_, Heap.get?_push_size _ rfl, rfl⟩, slot_setiter_next.lookup, ?_⟩))
    have hszI : (s.heap.push { cls := .type "tuple", data := .seq (ps.map fun (i : Nat) => rawInt i).toArray }).objs.size = s.heap.objs.size + 1 := Heap.size_push ..
    refine h _ _ _ _ _ rfl rfl (fun b o e => Heap.get?_push_of_some _ (Heap.get?_push_of_some _ e)) (walk_drawn (n := es.size) (ps := ps) (ep := ep) (t := t) (S := S) (p := s.heap.objs.size) hB (by rw [hszI]; exact addr_ne (by exact lin [_,_] (.h 1 1 (.v 0) (.v 1) (.g 1 1 (.v 0) (.a (.v 1) (.c 1)))) rfl hlt)) (by rw [hszI]; exact addr_ne (by exact lin [_] (.g 1 1 (.v 0) (.a (.v 0) (.c 1))) rfl)) rfl (by rw [hps.length_eq, List.length_range]) fun j hj => ?_)
      ⟨?_, ⟨Heap.get?_push_of_some _ hS1.1, hS.2⟩, Heap.get?_push_of_some _ hp1⟩ (by rw [hszI]; exact lin [_] (.g 1 0 (.v 0) (.a (.v 0) (.c 1))) rfl) (fun b hb => ?_) (by simp) ⟨_, Heap.get?_push_size _ rfl, rfl⟩ fun vs hl hv => ?_
    · simpa using hps.mem_iff.mp hj
    · exact Heap.get?_push_size _ rfl
    · rw [Heap.size_push, hszI]
      simp only [List.mem_cons, List.not_mem_nil, or_false] at hb
      rcases hb with rfl | rfl | rfl
      · rw [hszI]; exact ⟨Nat.lt_succ_self _, .inr (Nat.le_succ _)⟩
      · exact ⟨Nat.lt_succ_of_lt (Nat.lt_succ_of_lt hlt), .inl rfl⟩
      · exact ⟨Nat.lt_succ_of_lt (Nat.lt_succ_self _), .inr (Nat.le_refl _)⟩
    · have hlp : ps.length = es.size := by rw [hps.length_eq, List.length_range]
      have e1 : vs = ps.map fun j => (es.getD j (0, .none)).2 := by
        refine list_ext (by rw [hl, List.length_map, hlp]) fun i x hx => ?_
        refine el_EA (hv i x hx) fun j hj hq2_ => ?_
        refine eq_l hq2_ ?_
        rw [List.getElem?_map, hj]; rfl
      rw [e1]
      refine (hps.map _).trans (List.Perm.of_eq ?_)
      refine list_ext (by simp) fun i x hx => ?_
      have hi : i < es.size := by have := (List.getElem?_eq_some_iff.mp hx).1; simpa using this
      rw [List.getElem?_map, List.getElem?_range hi] at hx
      simp only [Option.map_some, Option.some.injEq] at hx
      rw [List.getElem?_map, Array.getElem?_toList, Array.getElem?_eq_getElem hi, ← hx]
      simp [Array.getD, hi]
  | false =>
    rw [if_neg Bool.false_ne_true]
    refine wpAny_bind (wpAny_pure ?_)
    refine wpAny_bind (wpAny_setEpoch_of hS.1 rfl hS.2 ?_)
    refine wpAny_bind (wpAny_newObj_type (wpAny_pure ⟨_, rfl, "set_iterator", _, ⟨_, Heap.get?_push_size _ rfl, rfl⟩, slot_setiter_next.lookup, ?_⟩))
    have hne : S ≠ s.heap.objs.size := addr_ne hlt
    have hS1 : SetAt (s.heap.push { cls := .type "set_iterator", data := .fields #[.int 0 0, .int 0 0, .ref S, .int es.size 0, .int ep 0] }) S es ep t := ⟨Heap.get?_push_of_some _ hS.1, hS.2⟩
    have hfp : ∀ b ∈ [s.heap.objs.size, S], b < (s.heap.push { cls := .type "set_iterator", data := .fields #[.int 0 0, .int 0 0, .ref S, .int es.size 0, .int ep 0] }).objs.size ∧ (b = S ∨ @LE.le Nat instLENat s.heap.objs.size b) := fun b hb => by
      rw [Heap.size_push]
      simp only [List.mem_cons, List.not_mem_nil, or_false] at hb
      rcases hb with rfl | rfl
      · exact ⟨Nat.lt_succ_self _, .inr (Nat.le_refl _)⟩
      · exact ⟨Nat.lt_succ_of_lt hlt, .inl rfl⟩
    have fin : ∀ (slot : Nat → Nat) (val : Nat → Value), slot 0 = 0 → WalksS prog w B s.heap.objs.size [s.heap.objs.size, S] [s.heap.objs.size] (fun a b => b = a) es.size (fun i v => v = val i) (fun i s' => s'.heap.get? s.heap.objs.size = some (iterObj (.int (slot i) 0) i S es.size ep) ∧ SetAt s'.heap S es ep t) →
        ((List.range es.size).map val).Perm (es.toList.map (·.2)) → Q (.ref s.heap.objs.size) { s with heap := s.heap.push { cls := .type "set_iterator", data := .fields #[.int 0 0, .int 0 0, .ref S, .int es.size 0, .int ep 0] } } := by
      intro slot val h0 W hperm
      refine h _ _ _ _ _ rfl rfl (fun b o e => Heap.get?_push_of_some _ e) W ⟨?_, hS1⟩ (Nat.le_refl _) hfp (by simp) ⟨_, Heap.get?_push_size _ rfl, rfl⟩ fun vs hl hv => ?_
      · rw [h0]; exact Heap.get?_push_size _ rfl
      · refine (List.Perm.of_eq ?_).trans hperm
        refine list_ext (by simp [hl]) fun i x hx => ?_
        have hi : i < es.size := by have := (List.getElem?_eq_some_iff.mp hx).1; exact lin [_,_,_] (.h 1 2 (.v 0) (.v 1) (.h 1 1 (.v 2) (.v 0) (.g 1 1 (.v 2) (.v 1)))) rfl hl this
        rw [List.getElem?_map, List.getElem?_range hi, hv i x hx]; rfl
    have toVals : ∀ xs : Array (Int × Value), xs.size = es.size → xs.toList.Perm es.toList → ((List.range es.size).map fun i => (xs.getD i (0, .none)).2).Perm (es.toList.map (·.2)) := by
      intro xs hxs hp
      refine (List.Perm.of_eq ?_).trans (hp.map _)
      refine list_ext (by simp [hxs]) fun i x hx => ?_
      have hi : i < es.size := by have := (List.getElem?_eq_some_iff.mp hx).1; simpa using this
      rw [List.getElem?_map, List.getElem?_range hi] at hx
      simp only [Option.map_some, Option.some.injEq] at hx
      have hi' : i < xs.size := by exact lin [_,_,_] (.h 1 3 (.v 0) (.v 1) (.h 1 1 (.v 2) (.v 1) (.g 1 1 (.v 2) (.v 0)))) rfl hxs hi
      rw [List.getElem?_map, Array.getElem?_toList, Array.getElem?_eq_getElem hi', ← hx]
      simp [Array.getD, hi']
    cases htx : w.params.followText "set-order" with
    | true =>
      have hp := pickOrder_perm (w.params.setOrder S ep) es
      have hpz : (pickOrder (w.params.setOrder S ep) es).size = es.size := by rw [← Array.length_toList, hp.length_eq, Array.length_toList]
      refine fin (fun _ => 0) (fun i => ((pickOrder (w.params.setOrder S ep) es).getD i (0, .none)).2) rfl (walk_int hB hne rfl _ _ (fun i s₁ Q' E' hi hS' hq => ?_) fun s₁ Q' E' hS' hq => ?_) (toVals _ hpz hp)
      · refine next_text htx hS' ?_
        have hi' : i < (pickOrder (w.params.setOrder S ep) es).size := by exact lin [_,_,_] (.h 1 3 (.v 0) (.v 1) (.h 1 1 (.v 2) (.v 1) (.g 1 1 (.v 2) (.v 0)))) rfl hpz hi
        rw [Array.getElem?_eq_getElem hi']
        have : (pickOrder (w.params.setOrder S ep) es).getD i (0, .none) = (pickOrder (w.params.setOrder S ep) es)[i] := by simp [Array.getD, hi']
        rw [this] at hq
        exact hq
      · refine next_text htx hS' ?_
        rw [Array.getElem?_eq_none (by exact lin [_,_] (.h 1 2 (.v 0) (.v 1) (.g 1 0 (.v 0) (.v 1))) rfl hpz)]
        exact hq
    | false =>
      rw [htx] at hm ht
      have hm : (!t.plain && decide (es.size > 1)) = false := by simpa using hm
      have hfit := hS.2
      simp only [SetTable.fits, Bool.and_eq_true, beq_iff_eq, decide_eq_true_eq] at hfit
      have hr : Rise t.place := by
        by_cases hpl : t.plain = true
        · exact (ht.rise hpl).1
        · have hpl : t.plain = false := by simpa using hpl
          rw [hpl] at hm
          have hsz : es.size ≤ 1 := by simpa using hm
          have hpz : t.place.toList.length ≤ 1 := by rw [Array.length_toList]; exact lin [_,_] (.h 1 2 (.v 0) (.v 1) (.h 1 0 (.v 1) (.c 1) (.g 1 0 (.v 0) (.c 1)))) rfl hfit.1 hsz
          unfold Rise
          generalize t.place.toList = l at hpz
          match l, hpz with
          | [], _ => exact List.Pairwise.nil
          | [x], _ => exact List.pairwise_singleton _ _
      refine fin (fun i => if i = 0 then 0 else t.place.getD (i - 1) 0 + 1) (fun i => (es.getD i (0, .none)).2) rfl (walk_int hB hne rfl _ _ (fun i s₁ Q' E' hi hS' hq => ?_) fun s₁ Q' E' hS' hq => ?_) (toVals es rfl (List.Perm.refl _))
      · refine next_places htx hS' hm ht.led ?_
        rw [below_next hr i (by exact lin [_,_,_] (.h 1 3 (.v 0) (.v 1) (.h 1 1 (.v 2) (.v 1) (.g 1 0 (.v 2) (.v 0)))) rfl hfit.1 hi)]
        have hi' : i < t.place.size := by exact lin [_,_,_] (.h 1 3 (.v 0) (.v 1) (.h 1 1 (.v 2) (.v 1) (.g 1 1 (.v 2) (.v 0)))) rfl hfit.1 hi
        rw [Array.getElem?_eq_getElem hi, Array.getElem?_eq_getElem hi']
        have e1 : es.getD i (0, .none) = es[i] := by simp [Array.getD, hi]
        have e2 : t.place.getD (i + 1 - 1) 0 = t.place[i] := by simp [Array.getD, hi']
        rw [e1, e2, if_neg (Nat.succ_ne_zero i)] at hq
        exact hq
      · refine next_places htx hS' hm ht.led ?_
        rw [below_next hr es.size (by exact lin [_,_] (.h 1 3 (.v 0) (.v 1) (.g 1 0 (.v 1) (.v 0))) rfl hfit.1)]
        rw [Array.getElem?_eq_none (Nat.le_refl _)]
        exact hq
theorem set_hint_len : typeLookup (.type "set") "__len__" = pure (some (.builtin "set.__len__")) := by rw [typeLookup_type, builtinLookup_eq_fast]; kernel_rfl
theorem collect_set {S : Addr} {ep : Nat} {es : Array (Int × Value)} {t : SetTable} {Q : List Value → Shared → Prop} (hh : A.handled = none) (hS : SetAt s.heap S es ep t) (ht : TabOk (!w.params.followText "set-order") t) (hb : es.size < scanBound)
    (h : ∀ s' vs, s'.gens = s.gens → s'.os = s.os → (∀ b o, s.heap.get? b = some o → s'.heap.get? b = some o) → vs.Perm (es.toList.map (·.2)) → Q vs s') : wpAny (model prog w) A (collect (.ref S)) Q E s := by
  have hlt : @LT.lt Nat instLTNat S s.heap.objs.size := Heap.lt_size hS.1
  unfold collect
  refine wpAny_bind (wpAny_runValue (codeAny_builtin PySem.F.entry_proto_collect ?_))
  rw [Around.under_plainId PySem.F.plain_proto_collect _]
  show wpAny _ A.in1 (newList [] >>= fun l => again (.builtin "list.__iadd__" ⟨[l, .ref S], []⟩)) _ _ s
  refine wpAny_bind (wpAny_newObj_type ?_)
  refine wpAny_pure ⟨plainId_quiet PySem.F.plain_list_iadd _, codeAny_builtin PySem.F.entry_list_iadd ?_⟩
  rw [Around.under_plainId PySem.F.plain_list_iadd _]
  have hL₁ : (s.heap.push { cls := .type "list", data := .seq ([] : List Value).toArray }).get? s.heap.objs.size = some { cls := .type "list", data := .seq ([] : List Value).toArray } := Heap.get?_push_size _ rfl
  have hS₁ : SetAt (s.heap.push { cls := .type "list", data := .seq ([] : List Value).toArray }) S es ep t := ⟨Heap.get?_push_of_some _ hS.1, hS.2⟩
  have hsz1 : (s.heap.push { cls := .type "list", data := .seq ([] : List Value).toArray }).objs.size = s.heap.objs.size + 1 := Heap.size_push ..
  have h1 : Builtin.List.listSameRef (.ref s.heap.objs.size) (.ref S) = false := by
    simp only [Builtin.List.listSameRef, beq_eq_false_iff_ne]
    exact Ne.symm (addr_ne hlt)
  show wpAny _ A.in1 (Builtin.List.listExtendWith (.ref s.heap.objs.size) (.ref S) (.ref s.heap.objs.size)) _ _ { s with heap := s.heap.push { cls := .type "list", data := .seq ([] : List Value).toArray } }
  unfold Builtin.List.listExtendWith
  refine wpAny_bind (wpAny_typeOf (T := "set") ⟨_, hS₁.1, rfl⟩ ?_)
  rw [if_neg (by rw [h1]; decide)]
  refine wpAny_bind (iter_set (B := A.in1) (by simpa using hh) hS₁ ht hb fun s₂ I fp P St hg ho hk W hst hI hfp hIf hIT hperm => ?_)
  have hg : s₂.gens = s.gens := hg
  have ho : s₂.os = s.os := ho
  have hk : ∀ b o, (s.heap.push { cls := .type "list", data := .seq ([] : List Value).toArray }).get? b = some o → s₂.heap.get? b = some o := hk
  have hI : s.heap.objs.size + 1 ≤ I := by rw [← hsz1]; exact hI
  have hT₂ : s₂.TypeIs (.ref S) "set" := ⟨_, hk _ _ hS₁.1, rfl⟩
  refine wpAny_bind (wpAny_holding ?_)
  unfold Builtin.List.listLengthHint
  refine wpAny_bind (wpAny_specialOf hT₂ set_hint_len ?_)
  (generalize hid : ("set.__len__" : String) = id0; (fail_if_success (clear hid id0)); wp_delta; rw [show splitId id0 = some ("set", "__len__") from by subst hid; decide +kernel]; subst hid)
  refine wpAny_bind (wpAny_isInstance (b := true) hT₂ (by rw [isSubtype_type]; kernel_rfl) ?_)
  rw [Bool.not_true, if_neg Bool.false_ne_true]
  rw [if_pos (by decide)]
  refine wpAny_bind (wpAny_typeOf hT₂ (wpAny_pure ?_))
  rw [Bool.false_or]
  rw [if_pos (by decide)]
  have hLfp : s.heap.objs.size ∉ fp := fun q => by
    rcases (hfp _ q).2 with e | e
    · exact addr_ne hlt e.symm
    · rw [hsz1] at e; exact lin [_] (.h 1 0 (.a (.v 0) (.c 1)) (.v 0) .f) rfl e
  have hL₂ := hk _ _ hL₁
  refine wpAny_bind (wpAny_rule ?_)
  refine wpAny_bind ?_
  show wpAny _ A.in1 (updateSeq s.heap.objs.size (·.push .none) >>= fun _ => updateSeq s.heap.objs.size (·.pop)) _ _ _
  refine wpAny_bind (wpAny_updateSeq hL₂ rfl ?_)
  have hL₃ := Heap.get?_update_self (Obj.mapSeq (·.push Value.none)) hL₂ rfl
  refine wpAny_updateSeq hL₃ rfl ?_
  have hL₄ := Heap.get?_update_self (Obj.mapSeq (·.pop)) hL₃ rfl
  have oth : ∀ b o, b ≠ s.heap.objs.size → s₂.heap.get? b = some o →
      ((s₂.heap.update s.heap.objs.size (Obj.mapSeq (·.push Value.none))).update s.heap.objs.size (Obj.mapSeq (·.pop))).get? b = some o :=
    fun b o hb e => (Heap.get?_update_other _ _ (Ne.symm hb)).trans ((Heap.get?_update_other _ _ (Ne.symm hb)).trans e)
  refine wpAny_pure ⟨plainId_quiet PySem.F.plain_extend_loop _, codeAny_extend_loopS W (fits_of_scanBound hb) _ hLfp _ es.size 0 _ _ _ rfl (Nat.zero_le _)
    (W.frame 0 s₂ _ s₂.toks hst (Nat.le_refl _) fun b hb o e => oth b o (fun h => hLfp (h ▸ hb)) e) hL₄ (ItemsOf.nil P) fun s' acc' c' hm hS' hacc => ?_⟩
  show wpAny _ A (load s.heap.objs.size >>= _) _ _ s'
  refine wpAny_bind (wpAny_load hS' ?_)
  refine wpAny_pure (h s' _ (hm.gens.trans hg) (hm.os.trans ho) (fun b o e => ?_) (hperm _ (by rw [Array.length_toList]; exact hacc.1) fun i v hv => hacc.2 i v (by rw [← Array.getElem?_toList]; exact hv)))
  have hb : b < s.heap.objs.size := Heap.lt_size e
  refine hm.heap b o ?_ (oth b o (addr_ne hb) (hk b o (Heap.get?_push_of_some _ e)))
  simp only [List.mem_cons, List.not_mem_nil, or_false, not_or]
  exact ⟨addr_ne hb, addr_ne (Nat.lt_of_lt_of_le hb (Nat.le_of_succ_le hI))⟩
theorem perm_of_nodup : ∀ {ks l : List Int}, ks.Nodup → (∀ k ∈ ks, k ∈ l) → l.length ≤ ks.length → l.Perm ks
  | [], l, _, _, hl => by
    have : l = [] := List.length_eq_zero_iff.mp (Nat.le_zero.mp hl)
    subst this; exact List.Perm.refl _
  | k :: r, l, hn, hm, hl => by
    obtain ⟨hk, hn⟩ := List.nodup_cons.mp hn
    have hkl : k ∈ l := hm k (by simp)
    have hp : l.Perm (k :: l.erase k) := List.perm_cons_erase hkl
    refine hp.trans (List.Perm.cons k (perm_of_nodup hn (fun j hj => ?_) ?_))
    · exact (List.mem_erase_of_ne (a := j) (b := k) (fun q => hk (by rw [← q]; exact hj))).mpr (hm j (List.mem_cons_of_mem _ hj))
    · have := hp.length_eq
      simp only [List.length_cons] at this hl
      exact lin [_,_,_] (.h 1 0 (.v 0) (.a (.v 1) (.c 1)) (.h 1 3 (.v 0) (.a (.v 2) (.c 1)) (.g 1 0 (.v 2) (.v 1)))) rfl hl this
theorem keys_of : ∀ {l : List (Int × Value)}, ElemsOf (intKind prog w) l → ∃ ks, IntsAre (l.map (·.2)) ks ∧ ∀ k, k ∈ ks ↔ ∃ e ∈ l, (intKind prog w).is k e.2 = true
  | [], _ => ⟨[], .nil, fun k => by simp⟩
  | e :: l, h => by
    refine el_EA (keys_of h.tail) fun ks h1 h2 => ?_
    obtain ⟨⟨k, hk, _⟩, _⟩ := h.head
    obtain ⟨h', v⟩ := e
    have hv : ∃ t, v = .int k t := by
      cases v with
      | int i t =>
        have : i = k := by simpa [intKind, Value.isInt] using hk
        exact ⟨t, by rw [this]⟩
      | _ => simp [intKind, Value.isInt] at hk
    obtain ⟨t, rfl⟩ := hv
    refine ⟨k :: ks, .cons k t h1, fun j => ?_⟩
    rw [List.mem_cons, h2 j]
    constructor
    · rintro (rfl | ⟨e, he, q⟩)
      · exact ⟨_, List.mem_cons_self, hk⟩
      · exact ⟨e, List.mem_cons_of_mem _ he, q⟩
    · intro hri_
      obtain ⟨e, he, q⟩ := hri_
      rcases List.mem_cons.mp he with rfl | he
      · exact .inl ((intKind prog w).inj _ _ _ q hk)
      · exact .inr ⟨e, he, q⟩
theorem IntsAre.perm {vs ws : List Value} (hp : vs.Perm ws) : ∀ {ns : List Int}, IntsAre ws ns → ∃ ms, IntsAre vs ms ∧ ms.Perm ns := by
  induction hp with
  | nil => intro ns h; exact ⟨ns, h, List.Perm.refl _⟩
  | cons x _ ih =>
    intro ns h
    cases h with
    | cons k t hr =>
      refine el_EA (ih hr) fun ms h1 h2 => ?_
      exact ⟨k :: ms, .cons k t h1, h2.cons k⟩
  | swap x y l =>
    intro ns h
    cases h with
    | cons k t hr =>
      cases hr with
      | cons j u hr => exact ⟨j :: k :: _, .cons j u (.cons k t hr), List.Perm.swap _ _ _⟩
  | trans _ _ ih1 ih2 =>
    intro ns h
    refine el_EA (ih2 h) fun ms h1 h2 => ?_
    refine el_EA (ih1 h1) fun ls h3 h4 => ?_
    exact ⟨ls, h3, h4.trans h2⟩
theorem sorted_set {S : Addr} {ks : List Int} {Q : Value → Shared → Prop} (hh : A.handled = none) (hS : SetI prog w (!w.params.followText "set-order") s.heap S ks) (h64 : ks.length < 64)
    (h : ∀ s' c vs ns, s'.gens = s.gens → s'.os = s.os → (∀ b o, s.heap.get? b = some o → s'.heap.get? b = some o) → s.heap.get? c = none → PlainLst s'.heap c vs → IntsAre vs ns → ns.Perm ks → ns.Pairwise (· ≤ ·) → Q (.ref c) s') :
    wpAny (model prog w) A (call (.builtin "sorted") [.ref S]) Q E s := by
  refine el_EEEAAA hS fun es ep t ho hel hb hr1_ => ?_
  refine el_AAAA hr1_ fun hf ht hnd hm hl => ?_
  refine el_EA (keys_of hel) fun js hj1 hj2 => ?_
  have hjl : js.length = es.size := by
    have := hj1.length
    rw [List.length_map, Array.length_toList] at this
    exact this.symm
  have hjk : js.Perm ks := perm_of_nodup hnd (fun k hk => (hj2 k).mpr ((hm k).mp hk)) (by exact lin [_,_,_] (.h 1 2 (.v 0) (.v 1) (.h 1 2 (.v 2) (.v 0) (.g 1 0 (.v 2) (.v 1)))) rfl hr1_.2.2.2.2 hjl)
  refine Calls.call_function_entry kind_sorted plain_sorted entry_sorted (args_sorted1 _) ?_
  unfold Builtin.«sorted»
  refine wpAny_bind (m := checkCount "sorted" 1 1 _) (wpAny_pure ?_)
  refine wpAny_bind (collect_set (by simpa using hh) ⟨ho, hf⟩ ht hb fun s₁ vs hg hos hk hp => ?_)
  refine el_EA (IntsAre.perm hp hj1) fun ms hm1 hm2 => ?_
  have hvl : vs.length < 64 := by rw [hm1.length, hm2.length_eq, hjl]; exact lin [_,_] (.h 1 1 (.v 0) (.c 64) (.h 1 2 (.v 1) (.v 0) (.g 1 1 (.v 1) (.c 64)))) rfl h64 hr1_.2.2.2.2
  refine wpAny_bind (wpAny_newList ?_)
  have hoL : (s₁.heap.push (seqObj "list" vs.toArray 0)).get? s₁.heap.objs.size = some (seqObj "list" vs.toArray 0) := Heap.get?_push_size _ rfl
  refine wpAny_bind (wpAny_holding (wpAny_call_entry slot_list_sort ⟨_, hoL, rfl⟩ entry_list_sort (list_sort_tree (s := { s₁ with heap := s₁.heap.push (seqObj "list" vs.toArray 0) }) hoL hm1 hvl fun out ns' a1 a2 a3 => ⟨_, rfl, ?_⟩) (args_list_sort _)))
  refine wpAny_pure ⟨_, rfl, h _ s₁.heap.objs.size out.toList ns' hg hos (fun b o e => ?_) ?_ ?_ a1 (a2.trans (hm2.trans hjk)) a3⟩
  · have e1 := hk b o e
    have hlt : b < s₁.heap.objs.size := Heap.lt_size e1
    unfold sortedHeap
    show (Heap.update _ _ _).get? b = some o
    rw [Heap.get?_update_other _ _ (Ne.symm (addr_ne hlt))]
    refine Heap.get?_push_of_some _ (Heap.get?_push_of_some _ ?_)
    rw [Heap.get?_update_other _ _ (Ne.symm (addr_ne hlt))]
    exact Heap.get?_push_of_some _ e1
  · cases e : s.heap.get? s₁.heap.objs.size with
    | none => rfl
    | some o => exact absurd (Heap.lt_size (hk _ _ e)) (Nat.lt_irrefl _)
  · unfold sortedHeap
    have e1 := get?_update_seq hoL (fun _ => #[])
    have hq : ∀ (X : Heap) (o1 o2 : Obj) {ob : Obj}, X.get? s₁.heap.objs.size = some ob → ((X.push o1).push o2).get? s₁.heap.objs.size = some ob := fun X o1 o2 _ e => Heap.get?_push_of_some _ (Heap.get?_push_of_some _ e)
    have e2 := get?_update_seq (hq _ (seqObj "tuple" vs.toArray 0) (seqObj "list" #[] 0) e1) (fun _ => out)
    exact ⟨_, e2⟩
end
end Mine
end
section
open PySem PySem.W PyProof.Rows PySem.Spec
set_option maxRecDepth 100000
namespace Mine
theorem dens_ints {cls : Cx} {h : Heap} {ι : List Addr} : ∀ {vs : List Value} {ns : List Int}, IntsAre vs ns → Dens cls h ι (ns.map .int) vs
  | _, _, .nil => rfl
  | _, _, .cons k t hr => ⟨_, _, rfl, ⟨t, rfl⟩, dens_ints hr⟩
section
variable {w : World} {A : Around} {E : Value → Shared → Prop} {s s' : Shared} {cls : Cx} {h₀ h' : Heap} {ι : List Addr} {σ σ' : Sg} {a b x : V} {va vb : Value} {n : Nat}
theorem sortedSetV_sound (R : Room n A) (k : Ok cls h₀ s.heap ι σ) (d : Den cls s.heap ι a va) (e : sortedSetV a σ = some (x, σ')) :
    wpAny (model prog w) A (call (.type "set") [va]) (fun v s₁ => wpAny (model prog w) A (call (.builtin "sorted") [v]) (Ret cls h₀ ι s σ' x) E s₁) E s := by
  cases a <;> first | exact fail_e e | skip
  · refine check_e e fun hl e2 => ?_
    refine el_EEA (bind_iff.mp e2) fun ns σ₂ e3 e4 => ?_
    refine el_EA (need_iff.mp e3) fun ns' hns q => ?_
    cases q
    cases pure_iff.mp e4
    refine el_EEAAA d fun c vs hq2_ _ p ds => ?_
    refine eq_l hq2_ ?_
    have hlen := Dens.length ds
    have hl := of_decide_eq_true hl
    have hi := ints_are ds hns
    have hnl := hi.length
    refine call_set_ints R.hd (pll p) (by simpa using hi) (by rw [List.size_toArray]; unfold scanBound; exact lin [_,_] (.h 1 2 (.v 0) (.v 1) (.h 1 1 (.v 1) (.c 64) (.g 1 1 (.a (.v 0) (.c 1)) (.c 4096)))) rfl hlen hl) fun h1 tk hS hk => ?_
    have hml := metBy_len (fun i => ns.getD i 0) vs.toArray.size
    have hsz : vs.toArray.size = vs.length := List.size_toArray
    refine sorted_set R.hd hS (by exact lin [_,_,_,_] (.h 1 2 (.v 0) (.v 1) (.h 1 1 (.v 1) (.c 64) (.h 1 0 (.v 2) (.v 3) (.h 1 2 (.v 3) (.v 0) (.g 1 1 (.v 2) (.c 64)))))) rfl hlen hl hml hsz) fun s₂ c₂ ws ms hg ho hk2 hc2 hp2 hi2 hperm hsort => ?_
    have keep : ∀ b o, s.heap.get? b = some o → s₂.heap.get? b = some o := fun b o e => hk2 b o (hk b o (Heap.lt_size e) e)
    have hms : ms = sortedSet ns := by
      refine el_EEEAAA hS fun es ep t _ _ _ hr1_ => ?_
      refine el_AAA hr1_ fun _ _ hnd _ => ?_
      have hnd' := hperm.symm.nodup hnd
      refine srt_ext ?_ srt_sortedSet fun y => ?_
      · rw [List.pairwise_iff_getElem] at hsort ⊢
        intro i j hi hj hij
        have := hsort i j hi hj hij
        have hne := (List.pairwise_iff_getElem.mp hnd') i j hi hj hij
        lia
      · rw [mem_sortedSet, hperm.mem_iff, metBy_mem]
        constructor
        · intro hri_
          refine el_EA hri_ fun j hj hq2_ => ?_
          refine eq_r hq2_ ?_
          have hj' : j < ns.length := by exact lin [_,_,_,_] (.h 1 2 (.v 0) (.v 1) (.h 1 2 (.v 2) (.v 0) (.h 1 1 (.v 3) (.v 2) (.g 1 1 (.v 3) (.v 1))))) rfl hnl hsz hj
          simp only [List.getD_eq_getElem?_getD, List.getElem?_eq_getElem hj', Option.getD_some]
          exact List.getElem_mem _
        · intro hy
          obtain ⟨j, hj, e⟩ := List.mem_iff_getElem.mp hy
          refine ⟨j, by exact lin [_,_,_,_] (.h 1 3 (.v 0) (.v 1) (.h 1 3 (.v 2) (.v 0) (.h 1 1 (.v 3) (.v 1) (.g 1 1 (.v 3) (.v 2))))) rfl hnl hsz hj, ?_⟩
          simp only [List.getD_eq_getElem?_getD, List.getElem?_eq_getElem hj, Option.getD_some]
          exact e
    obtain ⟨h2, g2, d2, t2, o2⟩ := s₂
    have hcn : s.heap.get? c₂ = none := by
      cases e : s.heap.get? c₂ with
      | none => rfl
      | some o => have := hk _ _ (Heap.lt_size e) e; rw [show h1.get? c₂ = none from hc2] at this; cases this
    refine After.grow k rfl hg ho keep ⟨c₂, ws, rfl, notin_fresh k hcn, hp2, ?_⟩
    rw [← hms]
    exact dens_ints hi2
end
end Mine
end
section
open PySem PySem.W PyProof.Rows PySem.Spec
set_option maxRecDepth 100000
namespace Mine
noncomputable abbrev IsZip2 (h : Heap) (z TI TO : Addr) (f0 f1 : Value) : Prop :=
  h.get? z = some { cls := .type "zip", dict := none, data := .fields #[f0, f1, .bool false, .ref TI, .ref TO], slots := #[] }
structure ZApart (z TI i1 i2 l1 l2 : Addr) : Prop where
  TIz : TI ≠ z
  i1z : i1 ≠ z
  i2z : i2 ≠ z
  TIi1 : TI ≠ i1
  TIi2 : TI ≠ i2
  i12 : i1 ≠ i2
  l1z : l1 ≠ z
  l1i1 : l1 ≠ i1
  l1i2 : l1 ≠ i2
  l2z : l2 ≠ z
  l2i1 : l2 ≠ i1
  l2i2 : l2 ≠ i2
section
variable {w : World} {A : Around} {E : Value → Shared → Prop} {s : Shared}
theorem aliveAt {a : Addr} {Q : Option Obj → Shared → Prop} (h : Q (s.heap.get? a) s) : wpAny (model prog w) A (loadIfAlive a) Q E s := fun Γ p _ => by
  unfold loadIfAlive
  exact h
theorem owned_taken {z TI TO T : Addr} {b : Bool} {o : Obj} {Q : Bool → Shared → Prop} (hz : IsZip2 s.heap z TI TO (rawInt T) (.bool b)) (hT : s.heap.get? T = some o)
    (h : ∀ h' b', IsZip2 h' z TI TO (rawInt T) (.bool b') → Heap.SameBut z s.heap h' → Q false { s with heap := h' }) : wpAny (model prog w) A (Builtin.SmallTypes.ownedTupleIsFree (.ref z)) Q E s := by
  unfold Builtin.SmallTypes.ownedTupleIsFree
  refine wpAny_bind (wpAny_field hz rfl (x := rawInt T) rfl ?_)
  unfold rawInt
  dsimp only
  rw [Int.toNat_natCast]
  refine wpAny_bind (aliveAt ?_)
  rw [hT]
  simp only [Option.isNone_some, Bool.false_eq_true, if_false]
  refine wpAny_bind (wpAny_field hz rfl (x := .bool b) rfl ?_)
  have e : s = { s with heap := s.heap } := by cases s; rfl
  cases b with
  | true =>
    rw [bne_self_eq_false, if_neg Bool.false_ne_true]
    refine wpAny_pure ?_
    rw [e]
    exact h _ _ hz (Heap.SameBut.refl _ _)
  | false =>
    rw [if_pos (by decide)]
    refine wpAny_bind (wpAny_setField_rec hz (by simp) fun h₁ hz₁ hs₁ => wpAny_pure (h h₁ true hz₁ hs₁))
theorem zip_slow {z TI TO i1 i2 l1 l2 T : Addr} {b : Bool} {o : Obj} {k1 k2 : Nat} {xs ys : Array Value} {x y : Value} {Q : Option Value → Shared → Prop} (D : ZApart z TI i1 i2 l1 l2)
    (hz : IsZip2 s.heap z TI TO (rawInt T) (.bool b)) (hT : s.heap.get? T = some o) (hTI : IsPair s.heap TI (.ref i1) (.ref i2))
    (h1 : s.heap.IsListIter i1 l1 k1) (h2 : s.heap.IsListIter i2 l2 k2) (hl1 : s.heap.IsList l1 xs) (hl2 : s.heap.IsList l2 ys) (hx : xs[k1]? = some x) (hy : ys[k2]? = some y)
    (hQ : ∀ h' T' b', IsZip2 h' z TI TO (rawInt T) (.bool b') → h'.IsListIter i1 l1 (k1 + 1) → h'.IsListIter i2 l2 (k2 + 1) → IsPair h' T' x y → s.heap.get? T' = none →
      (∀ c o, c ≠ z → c ≠ i1 → c ≠ i2 → s.heap.get? c = some o → h'.get? c = some o) → Q (some (.ref T')) { s with heap := h' }) :
    wpAny (model prog w) A (pyNext (.ref z)) Q E s := by
  have hTz : s.TypeIs (.ref z) "zip" := ⟨_, hz, rfl⟩
  unfold pyNext
  refine wpAny_bind (wpAny_attempt (wpAny_callSpecial?_slot (name := Str.ofString "__next__") hTz PySem.F.slot_zip_next
    (wpAny_call_entry PySem.F.slot_zip_next hTz PySem.F.entry_zip_next ?_ (PySem.F.args_zip_next_1 _))))
  show wpAny _ _ (field (.ref z) 2 >>= _) _ _ _
  refine wpAny_bind (wpAny_field hz rfl (x := .bool false) rfl ?_)
  show wpAny _ _ (field (.ref z) 3 >>= _) _ _ _
  refine wpAny_bind (wpAny_field hz rfl (x := .ref TI) rfl ?_)
  refine wpAny_bind (wpAny_seqItems hTI rfl ?_)
  show wpAny _ _ (Builtin.SmallTypes.ownedTupleIsFree (.ref z) >>= _) _ _ _
  refine wpAny_bind (owned_taken hz hT fun h₁ b₁ hz₁ hs₁ => ?_)
  rw [if_neg Bool.false_ne_true]
  refine wpAny_bind ?_
  simp only [List.forIn_toArray, List.forIn_cons, List.forIn_nil]
  refine wpAny_bind (wpAny_bind (wpAny_holding ?_))
  show wpAny _ _ (Builtin.SmallTypes.nextOf (.ref i1) >>= _) _ _ _
  refine wpAny_bind (wpAny_nextOf_list_item (h1.extBut hs₁.extBut D.i1z) (hl1.extBut hs₁.extBut D.l1z) hx fun h₂ h1₂ hs₂ => wpAny_pure ?_)
  refine wpAny_pure ?_
  refine wpAny_bind (wpAny_bind (wpAny_holding ?_))
  show wpAny _ _ (Builtin.SmallTypes.nextOf (.ref i2) >>= _) _ _ _
  refine wpAny_bind (wpAny_nextOf_list_item ((h2.extBut hs₁.extBut D.i2z).extBut hs₂.extBut D.i12.symm) ((hl2.extBut hs₁.extBut D.l2z).extBut hs₂.extBut D.l2i1) hy fun h₃ h2₃ hs₃ => wpAny_pure ?_)
  refine wpAny_pure (wpAny_pure ?_)
  refine wpAny_bind (wpAny_newTuple ?_ (by show (2 : Nat) ≤ sizeLine; exact Nat.le_trans (by decide) lim_line))
  refine wpAny_pure ⟨_, rfl, wpAny_pure ?_⟩
  have hk₃ : ∀ c o, c ≠ z → c ≠ i1 → c ≠ i2 → s.heap.get? c = some o → h₃.get? c = some o := fun c o c1 c2 c3 e => hs₃.extBut _ _ c3 (hs₂.extBut _ _ c2 (hs₁.extBut _ _ c1 e))
  refine hQ _ h₃.objs.size b₁ (Heap.get?_push_of_some _ (hs₃.extBut _ _ D.i2z.symm (hs₂.extBut _ _ D.i1z.symm hz₁))) ((h1₂.extBut hs₃.extBut D.i12).at fun o e => Heap.get?_push_of_some _ e) (h2₃.at fun o e => Heap.get?_push_of_some _ e) (Heap.get?_push_size _ rfl) ?_
    fun c o c1 c2 c3 e => Heap.get?_push_of_some _ (hk₃ c o c1 c2 c3 e)
  refine Heap.get?_none_of_le ?_
  rw [hs₃.1, hs₂.1, hs₁.1]
  exact Nat.le_refl _
theorem zip_slow_end {z TI TO i1 i2 l1 l2 T : Addr} {b : Bool} {o : Obj} {k1 : Nat} {xs : Array Value} {Q : Option Value → Shared → Prop} (hh : A.handled = none) (D : ZApart z TI i1 i2 l1 l2)
    (hz : IsZip2 s.heap z TI TO (rawInt T) (.bool b)) (hT : s.heap.get? T = some o) (hTI : IsPair s.heap TI (.ref i1) (.ref i2))
    (h1 : s.heap.IsListIter i1 l1 k1) (hl1 : s.heap.IsList l1 xs) (hx : xs[k1]? = none)
    (hQ : ∀ h', (∀ c o, c ≠ z → c ≠ i1 → c ≠ i2 → s.heap.get? c = some o → h'.get? c = some o) → Q none { s with heap := h' }) :
    wpAny (model prog w) A (pyNext (.ref z)) Q E s := by
  have hTz : s.TypeIs (.ref z) "zip" := ⟨_, hz, rfl⟩
  unfold pyNext
  refine wpAny_bind (wpAny_attempt (wpAny_callSpecial?_slot (name := Str.ofString "__next__") hTz PySem.F.slot_zip_next
    (wpAny_call_entry PySem.F.slot_zip_next hTz PySem.F.entry_zip_next ?_ (PySem.F.args_zip_next_1 _))))
  show wpAny _ _ (field (.ref z) 2 >>= _) _ _ _
  refine wpAny_bind (wpAny_field hz rfl (x := .bool false) rfl ?_)
  show wpAny _ _ (field (.ref z) 3 >>= _) _ _ _
  refine wpAny_bind (wpAny_field hz rfl (x := .ref TI) rfl ?_)
  refine wpAny_bind (wpAny_seqItems hTI rfl ?_)
  show wpAny _ _ (Builtin.SmallTypes.ownedTupleIsFree (.ref z) >>= _) _ _ _
  refine wpAny_bind (owned_taken hz hT fun h₁ b₁ hz₁ hs₁ => ?_)
  rw [if_neg Bool.false_ne_true]
  refine wpAny_bind ?_
  simp only [List.forIn_toArray, List.forIn_cons, List.forIn_nil]
  refine wpAny_bind (wpAny_bind (wpAny_holding ?_))
  show wpAny _ _ (Builtin.SmallTypes.nextOf (.ref i1) >>= _) _ _ _
  refine wpAny_bind (wpAny_nextOf_list_end hh (h1.extBut hs₁.extBut D.i1z) (hl1.extBut hs₁.extBut D.l1z) hx fun h₂ e hs₂ he => ?_)
  refine el_EA he fun oe hoe hce => ?_
  refine wpAny_bind (wpAny_isInstance (T := "StopIteration") (b := true) ⟨oe, hoe, hce⟩ isSubtype_stop ?_)
  exact wpAny_pure (hQ _ fun c o c1 c2 c3 e => hs₂ _ _ c2 (hs₁.extBut _ _ c1 e))
end
end Mine
end
section
open PySem PySem.W PyProof.Rows PySem.Spec
set_option maxRecDepth 100000
namespace Mine
theorem zip_no_len : typeLookup (.type "zip") "__len__" = pure none := by rw [typeLookup_type, builtinLookup_eq_fast]; kernel_rfl
theorem zip_no_hint : typeLookup (.type "zip") "__length_hint__" = pure none := by rw [typeLookup_type, builtinLookup_eq_fast]; kernel_rfl
theorem ne_of_cls {h : Heap} {a b : Addr} {oa ob : Obj} (ha : h.get? a = some oa) (hb : h.get? b = some ob) (hc : oa.cls ≠ ob.cls) : a ≠ b := fun q => by
  subst q
  rw [ha] at hb
  cases hb
  exact hc rfl
theorem ne_of_ty {h : Heap} {a b : Addr} {oa ob : Obj} {x y : String} (ha : h.get? a = some oa) (ca : oa.cls = .type x) (hb : h.get? b = some ob) (cb : ob.cls = .type y) (hxy : x ≠ y) : a ≠ b :=
  ne_of_cls ha hb (by rw [ca, cb]; intro q; cases q; exact hxy rfl)
noncomputable def PairsAt (h₀ h : Heap) (TO : Addr) (xs ys : List Value) (acc : List Value) : Prop := ∀ (j : Nat) x y, j < acc.length → xs[j]? = some x → ys[j]? = some y → ∃ T : Addr, acc[j]? = some (.ref T) ∧ IsPair h T x y ∧ h₀.get? T = none ∧ T ≠ TO
structure ZipSt (h₀ h : Heap) (z TI TO i1 i2 l1 l2 L : Addr) (xs ys acc : List Value) : Prop where
  keep : ∀ b o, h₀.get? b = some o → h.get? b = some o
  newz : h₀.get? z = none
  newi1 : h₀.get? i1 = none
  newi2 : h₀.get? i2 = none
  newTO : h₀.get? TO = none
  newL : h₀.get? L = none
  ti : IsPair h TI (.ref i1) (.ref i2)
  t1 : h.IsListIter i1 l1 acc.length
  t2 : h.IsListIter i2 l2 acc.length
  a1 : h.IsList l1 xs.toArray
  a2 : h.IsList l2 ys.toArray
  l : ∃ c, h.get? L = some { cls := .type "list", data := .seq acc.toArray c }
  ps : PairsAt h₀ h TO xs ys acc
  zz : (acc = [] ∧ IsZip h z TI TO .none ∧ ∃ a b, IsPair h TO a b) ∨ ∃ (T : Addr) (b : Bool), IsZip2 h z TI TO (rawInt T) (.bool b) ∧ (∃ o, h.get? T = some o ∧ o.cls = .type "tuple") ∧ T ≠ TO
  i12 : i1 ≠ i2
  l1i1 : l1 ≠ L
  l2i1 : l2 ≠ L
  tito : TI ≠ TO
  toO : ∃ a b, IsPair h TO a b
  l1TO : l1 ≠ TO
  l2TO : l2 ≠ TO
theorem isList_cls {h : Heap} {l : Addr} {xs : Array Value} (hl : h.IsList l xs) : ∃ o, h.get? l = some o ∧ o.cls = .type "list" := let ⟨o, e, c, _⟩ := hl; ⟨o, e, c⟩
theorem isListIter_cls {h : Heap} {i l : Addr} {k : Nat} (hl : h.IsListIter i l k) : ∃ o, h.get? i = some o ∧ o.cls = .type "list_iterator" := let ⟨o, e, c, _⟩ := hl; ⟨o, e, c⟩
section
variable {w : World} {A : Around} {E : Value → Shared → Prop} {s : Shared} {R : Result → Shared → Prop}
theorem zipSt_apart {h₀ h : Heap} {z TI TO i1 i2 l1 l2 L : Addr} {xs ys acc : List Value} (Z : ZipSt h₀ h z TI TO i1 i2 l1 l2 L xs ys acc) : ZipApart z TI TO i1 i2 l1 l2 ∧ ZApart z TI i1 i2 l1 l2 ∧ L ≠ z ∧ L ≠ TI ∧ L ≠ TO ∧ L ≠ i1 ∧ L ≠ i2 := by
  refine el_EA (isList_cls Z.a1) fun ol1 el1 cl1 => ?_
  refine el_EA (isList_cls Z.a2) fun ol2 el2 cl2 => ?_
  refine el_EA (isListIter_cls Z.t1) fun oi1 ei1 ci1 => ?_
  refine el_EA (isListIter_cls Z.t2) fun oi2 ei2 ci2 => ?_
  obtain ⟨c, eL⟩ := Z.l
  refine el_EE Z.toO fun a b eTO => ?_
  have eTI := Z.ti
  obtain ⟨oz, ez, cz⟩ : ∃ o, h.get? z = some o ∧ o.cls = .type "zip" := by
    rcases Z.zz with ⟨_, e, _⟩ | ⟨T, b, e, _⟩
    · exact ⟨_, e, rfl⟩
    · exact ⟨_, e, rfl⟩
  have ne : ∀ {a b : Addr} {oa ob : Obj} {x y : String}, h.get? a = some oa → oa.cls = .type x → h.get? b = some ob → ob.cls = .type y → x ≠ y → a ≠ b := fun ha ca hb cb hxy => ne_of_cls ha hb (by rw [ca, cb]; intro q; cases q; exact hxy rfl)
  have tl : ("tuple" : String) ≠ "list_iterator" := by decide
  have tz : ("tuple" : String) ≠ "zip" := by decide
  have iz : ("list_iterator" : String) ≠ "zip" := by decide
  have lz : ("list" : String) ≠ "zip" := by decide
  have li : ("list" : String) ≠ "list_iterator" := by decide
  have lt : ("list" : String) ≠ "tuple" := by decide
  exact ⟨⟨ne eTI rfl ez cz tz, ne eTO rfl ez cz tz, ne ei1 ci1 ez cz iz, ne ei2 ci2 ez cz iz, Z.tito, ne eTI rfl ei1 ci1 tl, ne eTI rfl ei2 ci2 tl, ne eTO rfl ei1 ci1 tl, ne eTO rfl ei2 ci2 tl, Z.i12,
      ne el1 cl1 ez cz lz, Z.l1TO, ne el1 cl1 ei1 ci1 li, ne el1 cl1 ei2 ci2 li, ne el2 cl2 ez cz lz, Z.l2TO, ne el2 cl2 ei1 ci1 li, ne el2 cl2 ei2 ci2 li⟩,
    ⟨ne eTI rfl ez cz tz, ne ei1 ci1 ez cz iz, ne ei2 ci2 ez cz iz, ne eTI rfl ei1 ci1 tl, ne eTI rfl ei2 ci2 tl, Z.i12, ne el1 cl1 ez cz lz, ne el1 cl1 ei1 ci1 li, ne el1 cl1 ei2 ci2 li, ne el2 cl2 ez cz lz, ne el2 cl2 ei1 ci1 li, ne el2 cl2 ei2 ci2 li⟩,
    ne eL rfl ez cz lz, ne eL rfl eTI rfl lt, ne eL rfl eTO rfl lt, ne eL rfl ei1 ci1 li, ne eL rfl ei2 ci2 li⟩
theorem zip_put {h₀ h : Heap} {z TI TO i1 i2 l1 l2 L : Addr} {xs ys acc : List Value} {x y : Value} {h1 : Heap} {T : Addr} (Z : ZipSt h₀ h z TI TO i1 i2 l1 l2 L xs ys acc) (hx : xs[acc.length]? = some x) (hy : ys[acc.length]? = some y)
    (k1 : h1.IsListIter i1 l1 (acc.length + 1)) (k2 : h1.IsListIter i2 l2 (acc.length + 1)) (hp : IsPair h1 T x y) (hT : h₀.get? T = none) (hkeep : ∀ c o, c ≠ z → c ≠ TO → c ≠ i1 → c ≠ i2 → h.get? c = some o → h1.get? c = some o)
    (hz : ∃ (T₁ : Addr) (b : Bool), IsZip2 h1 z TI TO (rawInt T₁) (.bool b) ∧ (∃ o, h1.get? T₁ = some o ∧ o.cls = .type "tuple") ∧ T₁ ≠ TO) (hTO : ∃ a b, IsPair h1 TO a b) (hfresh : h.get? T = none) :
    ZipSt h₀ (h1.update L (Obj.mapSeq fun xs => xs.push (Value.ref T))) z TI TO i1 i2 l1 l2 L xs ys (acc ++ [Value.ref T]) := by
  refine el_AAAAAA (zipSt_apart Z) fun D _ lz lti lto li1 li2 => ?_
  obtain ⟨c, eL⟩ := Z.l
  have eL1 := hkeep L _ lz lto li1 li2 eL
  have hs : Heap.SameBut L h1 (h1.update L (Obj.mapSeq fun xs => xs.push (Value.ref T))) := Heap.SameBut.update ..
  have up : ∀ b o, b ≠ L → h1.get? b = some o → (h1.update L (Obj.mapSeq fun xs => xs.push (Value.ref T))).get? b = some o := fun b o hb e => (hs.2 b hb).trans e
  have newNe : ∀ {b o}, h₀.get? b = some o → b ≠ L ∧ b ≠ z ∧ b ≠ TO ∧ b ≠ i1 ∧ b ≠ i2 := fun {b o} e => by
    refine in_AAAA (fun q => ?_) (fun q => ?_) (fun q => ?_) (fun q => ?_) (fun q => ?_)
    · subst q; rw [Z.newL] at e; cases e
    · subst q; rw [Z.newz] at e; cases e
    · subst q; rw [Z.newTO] at e; cases e
    · subst q; rw [Z.newi1] at e; cases e
    · subst q; rw [Z.newi2] at e; cases e
  have hTL : T ≠ L := fun q => by subst q; rw [hfresh] at eL; cases eL
  exact {
    keep := fun b o e => by obtain ⟨n1, n2, n3, n4, n5⟩ := newNe e; exact up b o n1 (hkeep b o n2 n3 n4 n5 (Z.keep b o e))
    newz := Z.newz
    newi1 := Z.newi1
    newi2 := Z.newi2
    newTO := Z.newTO
    newL := Z.newL
    ti := up _ _ (Ne.symm lti) (hkeep _ _ D.TIz D.TITO D.TIi1 D.TIi2 Z.ti)
    t1 := by rw [List.length_append]; exact k1.at fun o e => up _ o (Ne.symm li1) e
    t2 := by rw [List.length_append]; exact k2.at fun o e => up _ o (Ne.symm li2) e
    a1 := Z.a1.at fun o e => up _ o Z.l1i1 (hkeep _ o D.l1z D.l1TO D.l1i1 D.l1i2 e)
    a2 := Z.a2.at fun o e => up _ o Z.l2i1 (hkeep _ o D.l2z D.l2TO D.l2i1 D.l2i2 e)
    l := by
      have := IsL.update eL1 (fun xs => xs.push (Value.ref T))
      have e2 : acc.toArray.push (Value.ref T) = (acc ++ [Value.ref T]).toArray := by simp
      rw [e2] at this
      exact ⟨_, this⟩
    ps := fun j x' y' hj hx' hy' => by
      by_cases hlt : j < acc.length
      · refine el_EAAA (Z.ps j x' y' hlt hx' hy') fun T' e1 e2 e3 e4 => ?_
        refine in_EAAA T' (by rw [List.getElem?_append_left hlt]; exact e1) ?_ e3 e4
        have hne : T' ≠ z ∧ T' ≠ i1 ∧ T' ≠ i2 := by
          refine el_EA (isListIter_cls Z.t1) fun oi1 ei1 ci1 => ?_
          refine el_EA (isListIter_cls Z.t2) fun oi2 ei2 ci2 => ?_
          obtain ⟨oz, ez, cz⟩ : ∃ o, h.get? z = some o ∧ o.cls = .type "zip" := by
            rcases Z.zz with ⟨_, e, _⟩ | ⟨T, b, e, _⟩
            · exact ⟨_, e, rfl⟩
            · exact ⟨_, e, rfl⟩
          exact ⟨ne_of_ty e2 rfl ez cz (by decide), ne_of_ty e2 rfl ei1 ci1 (by decide), ne_of_ty e2 rfl ei2 ci2 (by decide)⟩
        exact up _ _ (ne_of_ty e2 rfl eL rfl (by decide)) (hkeep _ _ hne.1 e4 hne.2.1 hne.2.2 e2)
      · have hje : j = acc.length := by
          rw [List.length_append] at hj
          simp at hj
          exact Nat.le_antisymm (lin [_,_] (.h 1 1 (.v 0) (.a (.v 1) (.c 1)) (.g 1 0 (.v 0) (.v 1))) rfl hj) (lin [_,_] (.h 1 5 (.v 0) (.v 1) (.g 1 0 (.v 1) (.v 0))) rfl hlt)
        subst hje
        rw [hx] at hx'; cases hx'
        rw [hy] at hy'; cases hy'
        refine in_EAAA T (by simp) (up _ _ hTL hp) hT (fun q => ?_)
        refine el_EE Z.toO fun a b e => ?_
        have e' : h.get? TO = some _ := e
        rw [show h.get? TO = none from q ▸ hfresh] at e'; cases e'
    zz := by
      refine el_EEAA hz fun T₁ b e1 hn3_ e4 => ?_
      obtain ⟨o, e2, e3⟩ := hn3_
      exact .inr ⟨T₁, b, up _ _ (Ne.symm lz) e1, ⟨o, up _ _ (ne_of_ty e2 e3 eL1 rfl (by decide)) e2, e3⟩, e4⟩
    i12 := Z.i12
    l1i1 := Z.l1i1
    l2i1 := Z.l2i1
    tito := Z.tito
    toO := by obtain ⟨a, b, e⟩ := hTO; exact ⟨a, b, up _ _ (Ne.symm lto) e⟩
    l1TO := Z.l1TO
    l2TO := Z.l2TO }
theorem zip_extend {h₀ : Heap} {z TI TO i1 i2 l1 l2 L : Addr} {xs ys : List Value} (hh : A.handled = none) (hxy : xs.length = ys.length) (hsz : xs.length ≤ sizeLine) (res : Value) {g₀ o₀} :
    ∀ (k : Nat) (acc : List Value) (s : Shared), xs.length - acc.length = k → acc.length ≤ xs.length → s.gens = g₀ → s.os = o₀ → ZipSt h₀ s.heap z TI TO i1 i2 l1 l2 L xs ys acc →
      (∀ (s' : Shared) (acc' : List Value), s'.gens = g₀ → s'.os = o₀ → (∀ b o, h₀.get? b = some o → s'.heap.get? b = some o) → acc'.length = xs.length → (∃ c, s'.heap.get? L = some { cls := .type "list", data := .seq acc'.toArray c }) → PairsAt h₀ s'.heap TO xs ys acc' → R (.ok (.ret res)) s') →
      codeAny (model prog w) A (.builtin "list.extend.loop" ⟨[.ref L, .ref z, res], []⟩) R s := by
  intro k
  induction k with
  | zero =>
    intro acc s hk hle hg ho Z hR
    refine el_AAAAAA (zipSt_apart Z) fun D D' lz lti lto li1 li2 => ?_
    have hx : xs.toArray[acc.length]? = none := by rw [List.getElem?_toArray]; exact List.getElem?_eq_none (Nat.le_of_sub_eq_zero hk)
    have fin : ∀ h', (∀ c o, c ≠ z → c ≠ TO → c ≠ i1 → c ≠ i2 → s.heap.get? c = some o → h'.get? c = some o) → (∀ (T : Addr) o, T ≠ TO → s.heap.get? T = some o → o.cls = .type "tuple" → h'.get? T = some o) → R (.ok (.ret res)) { s with heap := h' } := fun h' hkeep ht => by
      obtain ⟨c, eL⟩ := Z.l
      refine hR _ acc hg ho (fun b o e => ?_) (sub_nil hk hle) ⟨c, hkeep _ _ lz lto li1 li2 eL⟩ fun j x y hj hx hy => ?_
      · refine hkeep b o ?_ ?_ ?_ ?_ (Z.keep b o e)
        · intro q; subst q; rw [Z.newz] at e; cases e
        · intro q; subst q; rw [Z.newTO] at e; cases e
        · intro q; subst q; rw [Z.newi1] at e; cases e
        · intro q; subst q; rw [Z.newi2] at e; cases e
      · refine el_EAAA (Z.ps j x y hj hx hy) fun T e1 e2 e3 e4 => ?_
        exact in_EAAA T e1 (ht T _ e4 e2 rfl) e3 e4
    have tup : ∀ h' : Heap, (∀ c o, c ≠ z → c ≠ TO → c ≠ i1 → c ≠ i2 → s.heap.get? c = some o → h'.get? c = some o) → ∀ (T : Addr) o, T ≠ TO → s.heap.get? T = some o → o.cls = .type "tuple" → h'.get? T = some o := fun h' hkeep T o hT e hc => by
      refine el_EA (isListIter_cls Z.t1) fun oi1 ei1 ci1 => ?_
      refine el_EA (isListIter_cls Z.t2) fun oi2 ei2 ci2 => ?_
      obtain ⟨oz, ez, cz⟩ : ∃ o, s.heap.get? z = some o ∧ o.cls = .type "zip" := by
        rcases Z.zz with ⟨_, e, _⟩ | ⟨T, b, e, _⟩
        · exact ⟨_, e, rfl⟩
        · exact ⟨_, e, rfl⟩
      exact hkeep T o (ne_of_ty e hc ez cz (by decide)) hT (ne_of_ty e hc ei1 ci1 (by decide)) (ne_of_ty e hc ei2 ci2 (by decide)) e
    refine codeAny_builtin PySem.F.entry_extend_loop ?_
    rw [Around.under_plainId PySem.F.plain_extend_loop _]
    show wpAny _ A.in1 (pyNext (.ref z) >>= _) _ _ s
    refine wpAny_bind ?_
    rcases Z.zz with ⟨_, hz, a, b, hTO⟩ | ⟨T, b, hz, ⟨o, hT, _⟩, _⟩
    · exact wpAny_pyNext_zip_end (by simpa using hh) D hz Z.ti hTO Z.t1 Z.t2 Z.a1 Z.a2 (.inl hx) fun h' hkeep => wpAny_pure (fin h' hkeep (tup h' hkeep))
    · exact zip_slow_end (by simpa using hh) D' hz hT Z.ti Z.t1 Z.a1 hx fun h' hkeep => wpAny_pure (fin h' (fun c o c1 _ c3 c4 e => hkeep c o c1 c3 c4 e) (tup h' fun c o c1 _ c3 c4 e => hkeep c o c1 c3 c4 e))
  | succ k ih =>
    intro acc s hk hle hg ho Z hR
    refine el_AAAAAA (zipSt_apart Z) fun D D' lz lti lto li1 li2 => ?_
    have hlt : acc.length < xs.length := sub_lt_of hk
    have hx : xs[acc.length]? = some xs[acc.length] := List.getElem?_eq_getElem hlt
    have hy : ys[acc.length]? = some (ys[acc.length]'(by exact lin [_,_,_] (.h 1 2 (.v 0) (.v 1) (.h 1 1 (.v 2) (.v 0) (.g 1 1 (.v 2) (.v 1)))) rfl hxy hlt)) := List.getElem?_eq_getElem (by exact lin [_,_,_] (.h 1 2 (.v 0) (.v 1) (.h 1 1 (.v 2) (.v 0) (.g 1 1 (.v 2) (.v 1)))) rfl hxy hlt)
    obtain ⟨c, eL⟩ := Z.l
    refine codeAny_builtin PySem.F.entry_extend_loop ?_
    rw [Around.under_plainId PySem.F.plain_extend_loop _]
    show wpAny _ A.in1 (pyNext (.ref z) >>= _) _ _ s
    refine wpAny_bind ?_
    have fin : ∀ h' (T : Addr), h'.get? L = some { cls := .type "list", data := .seq acc.toArray c } → ZipSt h₀ (h'.update L (Obj.mapSeq fun xs => xs.push (Value.ref T))) z TI TO i1 i2 l1 l2 L xs ys (acc ++ [Value.ref T]) →
        wpAny (model prog w) A.in1 (do
          updateSeq L (·.push (Value.ref T))
          again (.builtin "list.extend.loop" ⟨[.ref L, .ref z, res], []⟩)) (fun fin s' => match fin with | .done f => R (.ok f) s' | .again c => c.quiet = true ∧ codeAny (model prog w) A c R s') (fun e s' => R (.error e) s') { s with heap := h' } := fun h' T eL' Z' => by
      refine wpAny_bind (wpAny_updateSeq eL' rfl (wpAny_pure ⟨plainId_quiet PySem.F.plain_extend_loop _, ih (acc ++ [Value.ref T]) _ (by rw [List.length_append]; exact sub_step hk) (by rw [List.length_append]; simp; exact lin [_,_] (.h 1 1 (.v 0) (.v 1) (.g 1 0 (.a (.v 0) (.c 1)) (.v 1))) rfl hlt) hg ho Z' hR⟩) ?_ ?_)
      · rw [List.size_toArray]; exact Nat.le_trans hle hsz
      · rw [Array.size_push, List.size_toArray]; exact Nat.succ_le_succ (Nat.le_trans hle hsz)
    rcases Z.zz with ⟨hnil, hz, a, b, hTO⟩ | ⟨T, b, hz, ⟨o, hT, hTc⟩, hTO⟩
    · refine wpAny_pyNext_zip_item D hz Z.ti hTO Z.t1 Z.t2 Z.a1 Z.a2 (by rw [List.getElem?_toArray]; exact hx) (by rw [List.getElem?_toArray]; exact hy) fun h' a1 a2 a3 a4 a5 a6 hkeep => ?_
      refine fin h' _ (hkeep _ _ lz lto li1 li2 eL) (zip_put Z hx hy a3 a4 a5 ?_ hkeep ⟨_, false, a1, ⟨_, a5, rfl⟩, ?_⟩ ⟨_, _, a2⟩ (get?_size _))
      · cases e : h₀.get? s.heap.objs.size with
        | none => rfl
        | some o => exact absurd (Heap.lt_size (Z.keep _ _ e)) (Nat.lt_irrefl _)
      · intro q
        have e' : s.heap.get? TO = some _ := hTO
        rw [show s.heap.get? TO = none from q ▸ get?_size s.heap] at e'; cases e'
    · refine zip_slow D' hz hT Z.ti Z.t1 Z.t2 Z.a1 Z.a2 (by rw [List.getElem?_toArray]; exact hx) (by rw [List.getElem?_toArray]; exact hy) fun h' T' b' a1 a2 a3 a4 a5 hkeep => ?_
      refine el_EA (isListIter_cls Z.t1) fun oi1 ei1 ci1 => ?_
      refine el_EA (isListIter_cls Z.t2) fun oi2 ei2 ci2 => ?_
      refine fin h' T' (hkeep _ _ lz li1 li2 eL) (zip_put Z hx hy a2 a3 a4 ?_ (fun c o c1 _ c3 c4 e => hkeep c o c1 c3 c4 e) ⟨T, b', a1, ⟨o, hkeep _ _ (ne_of_ty hT hTc hz rfl (by decide)) (ne_of_ty hT hTc ei1 ci1 (by decide)) (ne_of_ty hT hTc ei2 ci2 (by decide)) hT, hTc⟩, hTO⟩ ?_ a5)
      · cases e : h₀.get? T' with
        | none => rfl
        | some o => rw [Z.keep _ _ e] at a5; cases a5
      · refine el_EE Z.toO fun p q e => ?_
        exact ⟨p, q, hkeep _ _ D.TOz D.TOi1 D.TOi2 e⟩
theorem collect_zip {h₀ : Heap} {z TI TO i1 i2 l1 l2 : Addr} {xs ys : List Value} {Q : List Value → Shared → Prop} (hh : A.handled = none) (hxy : xs.length = ys.length) (hsz : xs.length ≤ sizeLine)
    (D : ZipApart z TI TO i1 i2 l1 l2) (keep : ∀ b o, h₀.get? b = some o → s.heap.get? b = some o) (newz : h₀.get? z = none) (newi1 : h₀.get? i1 = none) (newi2 : h₀.get? i2 = none) (newTO : h₀.get? TO = none)
    (hz : IsZip s.heap z TI TO .none) (hTI : IsPair s.heap TI (.ref i1) (.ref i2)) (hTO : ∃ a b, IsPair s.heap TO a b) (t1 : s.heap.IsListIter i1 l1 0) (t2 : s.heap.IsListIter i2 l2 0) (a1 : s.heap.IsList l1 xs.toArray) (a2 : s.heap.IsList l2 ys.toArray)
    (h : ∀ (s' : Shared) (acc : List Value), s'.gens = s.gens → s'.os = s.os → (∀ b o, h₀.get? b = some o → s'.heap.get? b = some o) → acc.length = xs.length → PairsAt h₀ s'.heap TO xs ys acc → Q acc s') : wpAny (model prog w) A (collect (.ref z)) Q E s := by
  unfold collect
  refine wpAny_bind (wpAny_runValue (codeAny_builtin PySem.F.entry_proto_collect ?_))
  rw [Around.under_plainId PySem.F.plain_proto_collect _]
  show wpAny _ A.in1 (newList [] >>= fun l => again (.builtin "list.__iadd__" ⟨[l, .ref z], []⟩)) _ _ s
  refine wpAny_bind (wpAny_newObj_type ?_)
  refine wpAny_pure ⟨plainId_quiet PySem.F.plain_list_iadd _, codeAny_builtin PySem.F.entry_list_iadd ?_⟩
  rw [Around.under_plainId PySem.F.plain_list_iadd _]
  have hL₁ : (s.heap.push { cls := .type "list", data := .seq ([] : List Value).toArray }).get? s.heap.objs.size = some { cls := .type "list", data := .seq ([] : List Value).toArray } := Heap.get?_push_size _ rfl
  have hzlt := Heap.lt_size hz
  have h1 : Builtin.List.listSameRef (.ref s.heap.objs.size) (.ref z) = false := by
    simp only [Builtin.List.listSameRef, beq_eq_false_iff_ne]
    exact Ne.symm (addr_ne hzlt)
  have up : ∀ b o, s.heap.get? b = some o → (s.heap.push { cls := .type "list", data := .seq ([] : List Value).toArray }).get? b = some o := fun b o e => Heap.get?_push_of_some _ e
  show wpAny _ A.in1 (Builtin.List.listExtendWith (.ref s.heap.objs.size) (.ref z) (.ref s.heap.objs.size)) _ _ { s with heap := s.heap.push { cls := .type "list", data := .seq ([] : List Value).toArray } }
  unfold Builtin.List.listExtendWith
  have hTz : Shared.TypeIs { s with heap := s.heap.push { cls := .type "list", data := .seq ([] : List Value).toArray } } (.ref z) "zip" := ⟨_, up _ _ hz, rfl⟩
  refine wpAny_bind (wpAny_typeOf hTz ?_)
  rw [if_neg (by rw [h1]; decide)]
  refine wpAny_bind (wpAny_pyIter_zip (up _ _ hz) ?_)
  refine wpAny_bind (wpAny_holding ?_)
  unfold Builtin.List.listLengthHint
  refine wpAny_bind (wpAny_specialOf hTz zip_no_len ?_)
  show wpAny _ A.in1 (specialOf (Value.ref z) (Str.ofString "__length_hint__") >>= _) _ _ _
  refine wpAny_bind (wpAny_specialOf hTz zip_no_hint ?_)
  refine wpAny_pure ?_
  show wpAny _ A.in1 (rule "list.extend.makes-room" >>= fun _ => Builtin.List.listTouch (.ref s.heap.objs.size) >>= fun _ =>
    again (.builtin "list.extend.loop" ⟨[.ref s.heap.objs.size, .ref z, .ref s.heap.objs.size], []⟩)) _ _ _
  refine wpAny_bind (wpAny_rule ?_)
  refine wpAny_bind ?_
  show wpAny _ A.in1 (updateSeq s.heap.objs.size (·.push .none) >>= fun _ => updateSeq s.heap.objs.size (·.pop)) _ _ _
  refine wpAny_bind (wpAny_updateSeq hL₁ rfl ?_)
  have hL₃ := Heap.get?_update_self (Obj.mapSeq (·.push Value.none)) hL₁ rfl
  refine wpAny_updateSeq hL₃ rfl ?_
  have hL₄ := Heap.get?_update_self (Obj.mapSeq (·.pop)) hL₃ rfl
  have oth : ∀ b o, s.heap.get? b = some o →
      (((s.heap.push { cls := .type "list", data := .seq ([] : List Value).toArray }).update s.heap.objs.size (Obj.mapSeq (·.push Value.none))).update s.heap.objs.size (Obj.mapSeq (·.pop))).get? b = some o :=
    fun b o e => by
      have hb : s.heap.objs.size ≠ b := Ne.symm (addr_ne (Heap.lt_size e))
      exact (Heap.get?_update_other _ _ hb).trans ((Heap.get?_update_other _ _ hb).trans (up b o e))
  have notL : ∀ {b o}, s.heap.get? b = some o → b ≠ s.heap.objs.size := fun e => addr_ne (Heap.lt_size e)
  refine wpAny_pure ⟨plainId_quiet PySem.F.plain_extend_loop _, zip_extend (h₀ := h₀) (TI := TI) (TO := TO) (i1 := i1) (i2 := i2) (l1 := l1) (l2 := l2) (by simpa using hh) hxy hsz _ xs.length [] _ (by simp) (by simp) rfl rfl ?_ fun s' acc' hg ho hk hl hL hp => ?_⟩
  · exact {
      keep := fun b o e => oth b o (keep b o e)
      newz := newz
      newi1 := newi1
      newi2 := newi2
      newTO := newTO
      newL := by
        cases e : h₀.get? s.heap.objs.size with
        | none => rfl
        | some o => exact absurd (Heap.lt_size (keep _ _ e)) (Nat.lt_irrefl _)
      ti := oth _ _ hTI
      t1 := t1.at fun o e => oth _ o e
      t2 := t2.at fun o e => oth _ o e
      a1 := a1.at fun o e => oth _ o e
      a2 := a2.at fun o e => oth _ o e
      l := ⟨_, hL₄⟩
      ps := fun j x y hj => by simp at hj
      zz := .inl ⟨rfl, oth _ _ hz, by obtain ⟨a, b, e⟩ := hTO; exact ⟨a, b, oth _ _ e⟩⟩
      i12 := D.i12
      l1i1 := by obtain ⟨o, e, _⟩ := a1; exact notL e
      l2i1 := by obtain ⟨o, e, _⟩ := a2; exact notL e
      tito := D.TITO
      toO := by obtain ⟨a, b, e⟩ := hTO; exact ⟨a, b, oth _ _ e⟩
      l1TO := D.l1TO
      l2TO := D.l2TO }
  · obtain ⟨c, hL⟩ := hL
    show wpAny _ A (load s.heap.objs.size >>= _) _ _ s'
    refine wpAny_bind (wpAny_load hL ?_)
    refine wpAny_pure ?_
    exact h s' acc' hg ho hk hl hp
theorem call_tuple_zip {h₀ : Heap} {z TI TO i1 i2 l1 l2 : Addr} {xs ys : List Value} {Q : Value → Shared → Prop} (hh : A.handled = none) (hxy : xs.length = ys.length) (hsz : xs.length ≤ sizeLine)
    (D : ZipApart z TI TO i1 i2 l1 l2) (keep : ∀ b o, h₀.get? b = some o → s.heap.get? b = some o) (newz : h₀.get? z = none) (newi1 : h₀.get? i1 = none) (newi2 : h₀.get? i2 = none) (newTO : h₀.get? TO = none)
    (hz : IsZip s.heap z TI TO .none) (hTI : IsPair s.heap TI (.ref i1) (.ref i2)) (hTO : ∃ a b, IsPair s.heap TO a b) (t1 : s.heap.IsListIter i1 l1 0) (t2 : s.heap.IsListIter i2 l2 0) (a1 : s.heap.IsList l1 xs.toArray) (a2 : s.heap.IsList l2 ys.toArray)
    (h : ∀ (s' : Shared) (acc : List Value), s'.gens = s.gens → s'.os = s.os → (∀ b o, h₀.get? b = some o → s'.heap.get? b = some o) → acc.length = xs.length → PairsAt h₀ s'.heap TO xs ys acc → Q (.ref s'.heap.objs.size) { s' with heap := s'.heap.push { cls := .type "tuple", data := .seq acc.toArray } }) :
    wpAny (model prog w) A (call (.type "tuple") [.ref z]) Q E s := by
  refine callType_codes (Q₁ := fun obj s₁ => s₁.TypeIs obj "tuple" ∧ Q obj s₁) PySem.F.called_tuple (PySem.F.typeCall_tuple_1 _) PySem.F.entry_object_init ?_ fun obj s₁ h₁ => ?_
  · refine codeAny_of_tree ?_
    show wpAny _ _ (do checkBuiltinCall "tuple.__new__" ⟨[.type "tuple", .ref z], []⟩; again (.builtin "tuple.__new__" ⟨[.type "tuple", .ref z], []⟩)) _ _ s
    refine wpAny_bind (wpAny_of_eq (PySem.F.newCall_tuple_1 _) (wpAny_pure ⟨plainId_quiet PySem.F.plain_tuple_new _, codeAny_builtin PySem.F.entry_tuple_new ?_⟩))
    rw [Around.under_plainId PySem.F.plain_tuple_new _]
    have hsub := sub_tuple_self
    have hinit := init_tuple_lookup
    have hmh := madeHere_tuple
    have hTz : s.TypeIs (.ref z) "zip" := ⟨_, hz, rfl⟩
    wp_walk using wpAny_typeOf hTz, collect_zip (by simpa using hh) hxy hsz D keep newz newi1 newi2 newTO hz hTI hTO t1 t2 a1 a2
    intro s' acc hg ho hk hl hp
    show wpAny _ _ (Builtin.Tuple.tupleExact acc.toArray >>= fun v => ret v) _ _ _
    unfold Builtin.Tuple.tupleExact
    refine wpAny_bind (wpAny_newObj_type ?_ (by show acc.toArray.size ≤ sizeLine; rw [List.size_toArray, hl]; exact hsz))
    refine wpAny_pure ?_
    exact ⟨⟨_, Heap.get?_push_size _ rfl, rfl⟩, h s' acc hg ho hk hl hp⟩
  · exact ⟨h₁.1, PySem.F.args_object_init_2 obj _, object_init_meets PySem.F.called_tuple.init.lookup PySem.F.called_tuple.made (by decide) prog w _ _ s₁ ⟨h₁.1, rfl, h₁.2⟩⟩
end
section
variable {w : World} {A : Around} {E : Value → Shared → Prop} {s s' : Shared} {cls : Cx} {h₀ h' : Heap} {ι : List Addr} {σ σ' : Sg} {a b x : V} {va vb : Value} {n : Nat}
theorem Dens.pairs {h : Heap} {TO : Addr} : ∀ {xs ys : List V} {vs ws acc : List Value}, Dens cls h ι xs vs → Dens cls h ι ys ws → xs.length = ys.length → acc.length = xs.length →
    (∀ (j : Nat) x y, j < acc.length → vs[j]? = some x → ws[j]? = some y → ∃ T : Addr, acc[j]? = some (.ref T) ∧ IsPair h T x y ∧ Out cls ι T) → Dens cls h ι ((xs.zip ys).map fun p => .tup [p.1, p.2]) acc
  | [], [], _, _, acc, _, _, _, hl, _ => by
    have : acc = [] := List.length_eq_zero_iff.mp hl
    subst this; rfl
  | x :: xs, y :: ys, _, _, acc, ⟨v, r, rfl, dv, dr⟩, ⟨u, q, rfl, du, dq⟩, hxy, hl, hp => by
    cases acc with
    | nil => simp at hl
    | cons c acc =>
      refine el_EAA (hp 0 v u (by simp) rfl rfl) fun T e1 e2 e3 => ?_
      simp at e1
      refine eq_l e1 ?_
      refine in_EEAA _ _ rfl ⟨T, [v, u], rfl, e3, ⟨_, e2⟩, v, [u], rfl, dv, u, [], rfl, du, rfl⟩ (Dens.pairs (TO := TO) dr dq (by simpa using hxy) (by simpa using hl) fun j x' y' hj h1 h2 => ?_)
      refine el_EAA (hp (j + 1) x' y' (by simpa using hj) (by simpa using h1) (by simpa using h2)) fun T' f1 f2 f3 => ?_
      exact in_EAA T' (by simpa using f1) f2 f3
  | [], _ :: _, _, _, _, _, _, hxy, _, _ => by simp at hxy
  | _ :: _, [], _, _, _, _, _, hxy, _, _ => by simp at hxy
theorem zipV_sound (R : Room n A) (k : Ok cls h₀ s.heap ι σ) (da : Den cls s.heap ι a va) (db : Den cls s.heap ι b vb) (e : zipV a b σ = some (x, σ')) :
    wpAny (model prog w) A (call (.type "zip") [va, vb]) (fun v s₁ => wpAny (model prog w) A (call (.type "tuple") [v]) (Ret cls h₀ ι s σ' x) E s₁) E s := by
  cases a <;> first | exact fail_e e | skip
  cases b <;> first | exact fail_e e | skip
  · refine check_e e fun hl e2 => ?_
    refine pure_e e2 ?_
    simp only [Bool.and_eq_true, decide_eq_true_eq, beq_iff_eq] at hl
    refine el_EEAAA da fun la va' hq2_ na pa dsa => ?_
    refine eq_l hq2_ ?_
    refine el_EEAAA db fun lb vb' hq2_ nb pb dsb => ?_
    refine eq_l hq2_ ?_
    have hla := Dens.length dsa
    have hlb := Dens.length dsb
    refine call_zip_2 (pll pa) (pll pb) fun h1 z1 z2 z3 z4 z5 z6 hk => ?_
    have hla' : @LT.lt Nat instLTNat la s.heap.objs.size := by obtain ⟨_, e⟩ := pa; exact Heap.lt_size e
    have hlb' : @LT.lt Nat instLTNat lb s.heap.objs.size := by obtain ⟨_, e⟩ := pb; exact Heap.lt_size e
    have fr : ∀ i : Nat, s.heap.get? (s.heap.objs.size + i) = none := fun i => Heap.get?_none_of_le (Nat.le_add_right _ _)
    refine call_tuple_zip (h₀ := s.heap) R.hd (by exact Nat.le_antisymm (lin [_,_,_,_] (.h 1 2 (.v 0) (.v 1) (.h 1 2 (.v 2) (.v 0) (.h 1 3 (.v 3) (.v 1) (.g 1 0 (.v 2) (.v 3))))) rfl hl.2 hla hlb) (lin [_,_,_,_] (.h 1 3 (.v 0) (.v 1) (.h 1 3 (.v 2) (.v 0) (.h 1 2 (.v 3) (.v 1) (.g 1 0 (.v 3) (.v 2))))) rfl hl.2 hla hlb)) (by rw [hla]; exact Nat.le_trans hl.1 lim_line) (zipApart_new hla' hlb') hk (fr 4) (fr 0) (fr 1) (fr 3) z1 z2 ⟨_, _, z3⟩ z4 z5 ((pll pa).at fun o e => hk _ o e) ((pll pb).at fun o e => hk _ o e)
      fun s₂ acc hg ho hk2 hal hp => ?_
    have hk2 : ∀ b o, s.heap.get? b = some o → s₂.heap.get? b = some o := hk2
    refine After.grow k rfl hg ho (fun b o e => Heap.get?_push_of_some _ (hk2 b o e)) ⟨s₂.heap.objs.size, acc, rfl, notin_fresh k ?_, ⟨0, Heap.get?_push_size _ rfl⟩, ?_⟩
    · cases e : s.heap.get? s₂.heap.objs.size with
      | none => rfl
      | some o => exact absurd (Heap.lt_size (hk2 _ _ e)) (Nat.lt_irrefl _)
    · refine Dens.pairs (TO := 0) (dsa.kp fun b o _ e => Heap.get?_push_of_some _ (hk2 b o e)) (dsb.kp fun b o _ e => Heap.get?_push_of_some _ (hk2 b o e)) hl.2 (by exact Nat.le_antisymm (lin [_,_,_] (.h 1 2 (.v 0) (.v 1) (.h 1 2 (.v 2) (.v 0) (.g 1 0 (.v 2) (.v 1)))) rfl hla hal) (lin [_,_,_] (.h 1 3 (.v 0) (.v 1) (.h 1 3 (.v 2) (.v 0) (.g 1 0 (.v 1) (.v 2)))) rfl hla hal)) fun j x' y' hj h1 h2 => ?_
      refine el_EAAA (hp j x' y' hj h1 h2) fun T e1 e2 e3 _ => ?_
      exact in_EAA T e1 (Heap.get?_push_of_some _ e2) (notin_fresh k e3)
end
end Mine
end
section
open PySem PySem.W PyProof.Rows PySem.Spec
set_option maxRecDepth 100000
namespace Mine
noncomputable def Cx.plus (cls : Cx) (p : Addr → Prop) : Cx := ⟨cls.c, fun a => cls.ex a ∨ p a⟩
noncomputable def Kx (cls : Cx) (ι : List Addr) (h h' : Heap) : Prop := ∀ b o, Out cls ι b → h.get? b = some o → h'.get? b = some o
section
variable {cls : Cx} {p : Addr → Prop} {h h' h₀ : Heap} {ι ext : List Addr} {σ : Sg}
theorem Den.kx (hk : Kx cls ι h h') (x : V) (v : Value) (d : Den cls h ι x v) : Den cls h' ι x v := Den.gen rfl (fun _ _ hn q => ⟨hn, hk _ _ hn q⟩) (fun _ _ q => q) x v d
theorem Dens.kx (hk : Kx cls ι h h') (xs : List V) (vs : List Value) (d : Dens cls h ι xs vs) : Dens cls h' ι xs vs := Dens.gen rfl (fun _ _ hn q => ⟨hn, hk _ _ hn q⟩) (fun _ _ q => q) xs vs d
theorem Den.minus (x : V) (v : Value) (d : Den (cls.plus p) h ι x v) : Den cls h ι x v := Den.gen (cls := cls.plus p) (cls' := cls) rfl (fun _ _ hn q => ⟨⟨hn.1, fun z => hn.2 (Or.inl z)⟩, q⟩) (fun _ _ q => q) x v d
theorem Dens.minus (xs : List V) (vs : List Value) (d : Dens (cls.plus p) h ι xs vs) : Dens cls h ι xs vs := Dens.gen (cls := cls.plus p) (cls' := cls) rfl (fun _ _ hn q => ⟨⟨hn.1, fun z => hn.2 (Or.inl z)⟩, q⟩) (fun _ _ q => q) xs vs d
theorem out_plus {a : Addr} {o : Obj} (hp : ∀ a, p a → h.get? a = none) (hn : Out cls ι a) (e : h.get? a = some o) : Out (cls.plus p) ι a :=
  ⟨hn.1, fun q => q.elim hn.2 fun q => by rw [hp a q] at e; cases e⟩
theorem Den.plus (hp : ∀ a, p a → h.get? a = none) (x : V) (v : Value) (d : Den cls h ι x v) : Den (cls.plus p) h ι x v := Den.gen (cls := cls) (cls' := cls.plus p) rfl (fun _ _ hn q => ⟨out_plus hp hn q, q⟩) (fun _ _ q => q) x v d
theorem Dens.plus (hp : ∀ a, p a → h.get? a = none) (xs : List V) (vs : List Value) (d : Dens cls h ι xs vs) : Dens (cls.plus p) h ι xs vs := Dens.gen (cls := cls) (cls' := cls.plus p) rfl (fun _ _ hn q => ⟨out_plus hp hn q, q⟩) (fun _ _ q => q) xs vs d
theorem ObjAt.kx {a : Addr} {o : MObj} (q : ObjAt cls h ι a o) (hk : Kx cls ι h h') (he : ∀ ob, h.get? a = some ob → h'.get? a = some ob) : ObjAt cls h' ι a o := by
  cases o with
  | list xs => obtain ⟨vs, ⟨n, e⟩, ds⟩ := q; exact ⟨vs, ⟨n, he _ e⟩, Dens.kx hk xs vs ds⟩
  | fields fs =>
    refine el_AEA q fun dl m hn d => ?_
    refine el_EEEA (id hn) fun o₀ _ _ e₀ _ => ?_
    refine in_AEA (dl.of_same e₀ (he _ e₀)) m (hn.at' he) (fun n => ?_)
    have := d n
    split at this
    · exact this
    · rename_i x e; obtain ⟨v, a, b⟩ := this; exact ⟨v, a, Den.kx hk x v b⟩
  | dict n =>
    obtain ⟨⟨f, ⟨ob, es, ep, e, r⟩⟩, dl⟩ := q
    exact ⟨⟨f, ⟨ob, es, ep, he _ e, r⟩⟩, dl.of_same e (he _ e)⟩
theorem ObjAt.minus {a : Addr} {o : MObj} (q : ObjAt (cls.plus p) h ι a o) : ObjAt cls h ι a o := by
  cases o with
  | list xs => obtain ⟨vs, e, ds⟩ := q; exact ⟨vs, e, Dens.minus xs vs ds⟩
  | fields fs =>
    refine el_AEA q fun dl m hn d => ?_
    refine in_AEA dl m hn (fun n => ?_)
    have := d n
    split at this
    · exact this
    · rename_i x e; obtain ⟨v, a, b⟩ := this; exact ⟨v, a, Den.minus x v b⟩
  | dict n => exact q
theorem ObjAt.plus {a : Addr} {o : MObj} (hp : ∀ a, p a → h.get? a = none) (q : ObjAt cls h ι a o) : ObjAt (cls.plus p) h ι a o := by
  cases o with
  | list xs => obtain ⟨vs, e, ds⟩ := q; exact ⟨vs, e, Dens.plus hp xs vs ds⟩
  | fields fs =>
    refine el_AEA q fun dl m hn d => ?_
    refine in_AEA dl m hn (fun n => ?_)
    have := d n
    split at this
    · exact this
    · rename_i x e; obtain ⟨v, a, b⟩ := this; exact ⟨v, a, Den.plus hp x v b⟩
  | dict n => exact q
theorem Ok.kx (k : Ok cls h₀ h ι σ) (hk : Kx cls ι h h') (hl : ∀ a ∈ ι, ∀ o, h.get? a = some o → h'.get? a = some o) (he : ∀ a, cls.ex a → ∃ o, h'.get? a = some o) : Ok cls h₀ h' ι σ where
  stay := fun b o e => hk b o ⟨(fun q => by rw [k.new b q] at e; cases e), (fun q => by rw [(k.exs b q).2.2] at e; cases e)⟩ (k.stay b o e)
  new := k.new
  nodup := k.nodup
  len := k.len
  exs := fun a ha => ⟨he a ha, (k.exs a ha).2⟩
  obj := fun l a o e1 e2 => (k.obj l a o e1 e2).kx hk (hl a (List.mem_of_getElem? e1))
theorem Ok.minus (k : Ok (cls.plus p) h₀ h ι σ) : Ok cls h₀ h ι σ where
  stay := k.stay
  new := k.new
  nodup := k.nodup
  len := k.len
  exs := fun a ha => k.exs a (.inl ha)
  obj := fun l a o e1 e2 => (k.obj l a o e1 e2).minus
theorem Ok.plus (k : Ok cls h₀ h ι σ) (hp : ∀ a, p a → h.get? a = none) (hk : ∀ b o, h.get? b = some o → h'.get? b = some o) (he : ∀ a, p a → ∃ o, h'.get? a = some o) : Ok (cls.plus p) h₀ h' ι σ where
  stay := fun b o e => hk b o (k.stay b o e)
  new := k.new
  nodup := k.nodup
  len := k.len
  exs := fun a ha => by
    rcases ha with ha | ha
    · obtain ⟨⟨o, e⟩, r⟩ := k.exs a ha
      exact ⟨⟨o, hk _ _ e⟩, r⟩
    · refine ⟨he a ha, fun q => ?_, k.noneAt (hp a ha)⟩
      obtain ⟨o, e⟩ := k.has q
      rw [hp a ha] at e; cases e
  obj := fun l a o e1 e2 => ((k.obj l a o e1 e2).plus hp).kx (fun b ob _ e => hk b ob e) (fun ob e => hk _ _ e)
theorem kx_sameBut {a : Addr} (ha : cls.ex a) (hs : Heap.SameBut a h h') : Kx cls ι h h' := fun b o hb e => (hs.2 b fun q => hb.2 (q ▸ ha)).trans e
theorem Ok.exch (k : Ok cls h₀ h ι σ) {a : Addr} (ha : cls.ex a) (hs : Heap.SameBut a h h') (hob : ∃ o, h'.get? a = some o) : Ok cls h₀ h' ι σ :=
  k.kx (kx_sameBut ha hs) (fun b hb o e => (hs.2 b fun q => (k.exs a ha).2.1 (q ▸ hb)).trans e) fun b hb => by
    by_cases q : b = a
    · rw [q]; exact hob
    · obtain ⟨⟨o, e⟩, _⟩ := k.exs b hb
      exact ⟨o, (hs.2 b q).trans e⟩
end
structure FrameEx (cls : Cx) (env : Env) : Prop where
  l : cls.ex env.locals
  c : ∀ x c, env.cells.lookup x = some c → cls.ex c
theorem FrameEx.plus {cls : Cx} {env : Env} {p : Addr → Prop} (f : FrameEx cls env) : FrameEx (cls.plus p) env := ⟨.inl f.l, fun x c e => .inl (f.c x c e)⟩
structure EnvSt (sc : Scope) (env : Env) : Prop where
  fn : env.scope.kind = .function
  gl : env.globals = mainGlobals
  bl : env.builtins = builtinsNs
  km : ∀ x, sc.names.lookup x ≠ some .free → env.kindOf x = sc.names.lookup x
  kf : ∀ x, sc.names.lookup x = some .free → env.kindOf x = some .free ∨ env.kindOf x = some .cell
  apart : ∀ x y c, env.cells.lookup x = some c → env.cells.lookup y = some c → x = y
  lc : ∀ x, env.cells.lookup x ≠ some env.locals
  own : ∀ x, sc.names.lookup x = some .cell → ∃ c, env.cells.lookup x = some c
  fre : ∀ x, sc.names.lookup x = some .free → ∃ c, env.cells.lookup x = some c
structure EnvOK (cls : Cx) (h : Heap) (ι : List Addr) (sc : Scope) (env : Env) (ρ : Rho) : Prop where
  ns : ∃ m, h.Ns env.locals m ∧ ∀ x v, sc.names.lookup x = some .local → ρ x = some v → ∃ w, m x = some w ∧ Den cls h ι v w
  ce : ∀ x c, env.cells.lookup x = some c → ∃ o, h.IsCell c o ∧ ∀ v, (sc.names.lookup x = some .cell ∨ sc.names.lookup x = some .free) → ρ x = some v → ∃ w, o = some w ∧ Den cls h ι v w
  dom : ∀ x v, ρ x = some v → nameOk x = true ∧ (sc.names.lookup x = some .local ∨ ((sc.names.lookup x = some .cell ∨ sc.names.lookup x = some .free) ∧ ∃ c, env.cells.lookup x = some c))
section
variable {cls : Cx} {p : Addr → Prop} {h h' h₀ : Heap} {ι ext : List Addr} {σ : Sg} {sc : Scope} {env : Env} {ρ : Rho}
theorem EnvOK.step (e : EnvOK cls h ι sc env ρ) (fe : FrameEx cls env) (k : Ok cls h₀ h ι σ) (st : Step ι ext h h') : EnvOK cls h' (ι ++ ext) sc env ρ where
  ns := by
    refine el_EA e.ns fun m hn hd => ?_
    refine ⟨m, hn.at' fun o q => st.keep _ o (k.exs _ fe.l).2.1 q, fun x v h1 h2 => ?_⟩
    refine el_EA (hd x v h1 h2) fun w h3 h4 => ?_
    exact ⟨w, h3, Den.step st.keep st.fresh v w h4⟩
  ce := fun x c hc => by
    refine el_EA (e.ce x c hc) fun o hn1_ hd => ?_
    obtain ⟨ob, ho, hod⟩ := hn1_
    refine ⟨o, ⟨ob, st.keep _ ob (k.exs _ (fe.c x c hc)).2.1 ho, hod⟩, fun v h1 h2 => ?_⟩
    refine el_EA (hd v h1 h2) fun w h3 h4 => ?_
    exact ⟨w, h3, Den.step st.keep st.fresh v w h4⟩
  dom := e.dom
theorem EnvOK.minus (e : EnvOK (cls.plus p) h ι sc env ρ) : EnvOK cls h ι sc env ρ where
  ns := by
    refine el_EA e.ns fun m hn hd => ?_
    exact ⟨m, hn, fun x v h1 h2 => let ⟨w, h3, h4⟩ := hd x v h1 h2; ⟨w, h3, Den.minus v w h4⟩⟩
  ce := fun x c hc => by
    refine el_EA (e.ce x c hc) fun o ho hd => ?_
    exact ⟨o, ho, fun v h1 h2 => let ⟨w, h3, h4⟩ := hd v h1 h2; ⟨w, h3, Den.minus v w h4⟩⟩
  dom := e.dom
theorem EnvOK.plus (e : EnvOK cls h ι sc env ρ) (hp : ∀ a, p a → h.get? a = none) (hk : ∀ b o, h.get? b = some o → h'.get? b = some o) : EnvOK (cls.plus p) h' ι sc env ρ where
  ns := by
    refine el_EA e.ns fun m hn hd => ?_
    exact ⟨m, hn.at' fun o q => hk _ o q, fun x v h1 h2 => let ⟨w, h3, h4⟩ := hd x v h1 h2; ⟨w, h3, Den.kx (fun b o _ q => hk b o q) v w (Den.plus hp v w h4)⟩⟩
  ce := fun x c hc => by
    refine el_EA (e.ce x c hc) fun o hn1_ hd => ?_
    obtain ⟨ob, ho, hod⟩ := hn1_
    exact ⟨o, ⟨ob, hk _ _ ho, hod⟩, fun v h1 h2 => let ⟨w, h3, h4⟩ := hd v h1 h2; ⟨w, h3, Den.kx (fun b o _ q => hk b o q) v w (Den.plus hp v w h4)⟩⟩
  dom := e.dom
theorem EnvOK.other (e : EnvOK cls h ι sc env ρ) {a : Addr} (ha : cls.ex a) (hs : Heap.SameBut a h h') (hL : a ≠ env.locals) (hC : ∀ x, env.cells.lookup x ≠ some a) : EnvOK cls h' ι sc env ρ where
  ns := by
    refine el_EA e.ns fun m hn hd => ?_
    exact ⟨m, hn.sameBut hs (Ne.symm hL), fun x v h1 h2 => let ⟨w, h3, h4⟩ := hd x v h1 h2; ⟨w, h3, Den.kx (kx_sameBut ha hs) v w h4⟩⟩
  ce := fun x c hc => by
    refine el_EA (e.ce x c hc) fun o ho hd => ?_
    exact ⟨o, ho.sameBut hs (fun q => hC x (by rw [hc, q])), fun v h1 h2 => let ⟨w, h3, h4⟩ := hd v h1 h2; ⟨w, h3, Den.kx (kx_sameBut ha hs) v w h4⟩⟩
  dom := e.dom
theorem EnvOK.local (e : EnvOK cls h ι sc env ρ) (fe : FrameEx cls env) (es : EnvSt sc env) {x : Str} {v : V} {w : Value} {m : Str → Option Value} (hx : sc.names.lookup x = some .local) (hok : nameOk x = true)
    (hn : h.Ns env.locals m) (hn' : h'.Ns env.locals (fun y => if y = x then some w else m y)) (hs : Heap.SameBut env.locals h h') (d : Den cls h ι v w) : EnvOK cls h' ι sc env (upd ρ x v) where
  ns := by
    refine el_EA e.ns fun m' hm' hd => ?_
    refine ⟨_, hn', fun y u h1 h2 => ?_⟩
    unfold upd at h2
    by_cases q : y = x
    · subst q
      simp only [if_true, Option.some.injEq] at h2 ⊢
      subst h2
      exact ⟨w, rfl, Den.kx (kx_sameBut fe.l hs) _ w d⟩
    · simp only [q, if_false] at h2 ⊢
      refine el_EA (hd y u h1 h2) fun w' h3 h4 => ?_
      refine ⟨w', ?_, Den.kx (kx_sameBut fe.l hs) u w' h4⟩
      refine el_EEEAAA hn fun o1 es1 ep1 g1 d1 _ f1 => ?_
      refine el_EEEAAA hm' fun o2 es2 ep2 g2 d2 _ f2 => ?_
      rw [g1] at g2; cases g2
      rw [d1] at d2; cases d2
      rw [← f1, f2]; exact h3
  ce := fun y c hc => by
    refine el_EA (e.ce y c hc) fun o ho hd => ?_
    refine ⟨o, ho.sameBut hs (fun q => es.lc y (by rw [hc, q])), fun u h1 h2 => ?_⟩
    unfold upd at h2
    by_cases q : y = x
    · subst q; rw [hx] at h1; rcases h1 with h1 | h1 <;> cases h1
    · simp only [q, if_false] at h2
      refine el_EA (hd u h1 h2) fun w' h3 h4 => ?_
      exact ⟨w', h3, Den.kx (kx_sameBut fe.l hs) u w' h4⟩
  dom := fun y u h2 => by
    unfold upd at h2
    by_cases q : y = x
    · subst q; exact ⟨hok, .inl hx⟩
    · simp only [q, if_false] at h2; exact e.dom y u h2
theorem EnvOK.cell (e : EnvOK cls h ι sc env ρ) (fe : FrameEx cls env) (es : EnvSt sc env) {x : Str} {v : V} {w : Value} {c : Addr} (hx : sc.names.lookup x = some .cell) (hok : nameOk x = true) (hc : env.cells.lookup x = some c)
    (hn' : h'.IsCell c (some w)) (hs : Heap.SameBut c h h') (d : Den cls h ι v w) : EnvOK cls h' ι sc env (upd ρ x v) where
  ns := by
    refine el_EA e.ns fun m hn hd => ?_
    refine ⟨m, hn.sameBut hs (fun q => es.lc x (by rw [hc, q])), fun y u h1 h2 => ?_⟩
    unfold upd at h2
    by_cases q : y = x
    · subst q; rw [hx] at h1; cases h1
    · simp only [q, if_false] at h2
      refine el_EA (hd y u h1 h2) fun w' h3 h4 => ?_
      exact ⟨w', h3, Den.kx (kx_sameBut (fe.c x c hc) hs) u w' h4⟩
  ce := fun y c' hc' => by
    unfold upd
    by_cases q : y = x
    · subst q
      rw [hc] at hc'; cases hc'
      refine ⟨some w, hn', fun u _ h2 => ?_⟩
      simp only [if_true, Option.some.injEq] at h2
      refine eq_r h2 ?_
      exact ⟨w, rfl, Den.kx (kx_sameBut (fe.c y c hc) hs) _ w d⟩
    · refine el_EA (e.ce y c' hc') fun o ho hd => ?_
      refine ⟨o, ho.sameBut hs (fun z => q (es.apart y x c (by rw [← z]; exact hc') hc)), fun u h1 h2 => ?_⟩
      simp only [q, if_false] at h2
      refine el_EA (hd u h1 h2) fun w' h3 h4 => ?_
      exact ⟨w', h3, Den.kx (kx_sameBut (fe.c x c hc) hs) u w' h4⟩
  dom := fun y u h2 => by
    unfold upd at h2
    by_cases q : y = x
    · subst q; exact ⟨hok, .inr ⟨.inl hx, c, hc⟩⟩
    · simp only [q, if_false] at h2; exact e.dom y u h2
end
end Mine
end
section
open PySem PySem.W PyProof.Rows PySem.Spec
set_option maxRecDepth 100000
namespace Mine
structure RoomE (n : Nat) (A : Around) : Prop where
  hd : A.handled = none
  dep : A.depth + 4 * n + 12 < recursionLimit
  un : A.units + 40 * n + 420 < cLine
theorem RoomE.room {n : Nat} {A : Around} (r : RoomE n A) : Room n A := ⟨r.hd, by have := r.dep; exact lin [_,_] (.h 1 1 (.a (.a (.v 0) (.m 4 (.v 1))) (.c 12)) (.c 1000) (.g 1 1 (.a (.a (.v 0) (.m 4 (.v 1))) (.c 10)) (.c 1000))) rfl this, by have := r.un; exact lin [_,_] (.h 1 1 (.a (.a (.v 0) (.m 40 (.v 1))) (.c 420)) (.c 9900) (.g 1 1 (.a (.a (.v 0) (.m 40 (.v 1))) (.c 400)) (.c 9900))) rfl this⟩
noncomputable def KeyAt (K : Frag) (cm : Str → Option Addr) : Key → Addr → Prop
  | (none, nm), f => nsIn K mainGlobals nm = some (some (.ref f))
  | (some c, nm), f => ∃ C, cm c = some C ∧ findIn K (.ref C) nm = some (some (.ref f))
noncomputable def bnames : List Str := ["int", "len", "list", "max", "min", "range", "tuple", "zip", "set", "sorted", "super"]
noncomputable def bvalue (f : Str) : Value := if f == ("zip" : Str) then .type "zip" else if f == ("set" : Str) then .type "set" else if f == ("sorted" : Str) then .builtin "sorted" else if f == ("super" : Str) then .type "super" else bval f
noncomputable def CodeR (E : Value → Shared → Prop) (Q : Value → Shared → Prop) : Result → Shared → Prop := fun r s' => match r with | .ok (.ret v) => Q v s' | .ok _ => False | .error e => E e s'
noncomputable def Makes (w : World) (K : Frag) (n : Nat) (C : Addr) : Prop :=
  ∀ (init : Addr), findIn K (.ref C) "__init__" = some (some (.ref init)) → isFn K (.ref init) = true → ∀ (A : Around) (E : Value → Shared → Prop) (s : Shared) (vals : List Value) (Q : Value → Shared → Prop), K.In s.heap → RoomE n A →
    (∀ (h' : Heap) (obj dx : Addr) (B : Around), s.heap.get? obj = none → s.heap.get? dx = none → obj ≠ dx → InstObj h' obj C dx → h'.Ns dx (fun _ => none) → h'.DictLe dx 0 → (∀ b o, s.heap.get? b = some o → h'.get? b = some o) → Room n B →
      codeAny (model prog w) B (.call (.ref init) ⟨.ref obj :: vals, []⟩) (CodeR E fun r s₂ => r = .none ∧ Q (.ref obj) s₂) { s with heap := h' }) →
    codeAny (model prog w) A (.call (.ref C) ⟨vals, []⟩) (CodeR E Q) s
structure Facts (w : World) (cf : CF) (K : Frag) (h₀ : Heap) (n : Nat) : Prop where
  X : K.In h₀
  KC : ∀ cls : Cx, cls.c = cm → ClsOk K cls
  G : ∃ mg mb, h₀.Ns mainGlobals mg ∧ h₀.Ns builtinsNs mb ∧ ∀ f ∈ bnames, mg f = none ∧ mb f = some (bvalue f)
  C : ∀ key args σ x σ', cf key args σ = some (x, σ') → ∃ f, KeyAt K cm key f ∧ isFn K (.ref f) = true ∧ keepIn K (.ref f) = true ∧ ∀ (cls : Cx) A E (s : Shared) ι vals, cls.c = cm → Room n A → Ok cls h₀ s.heap ι σ → Dens cls s.heap ι args vals →
      codeAny (model prog w) A (.call (.ref f) ⟨vals, []⟩) (CodeR E (Ret cls h₀ ι s σ' x)) s
  N : ∀ f, P.classes.contains f = true → ∃ C, cm f = some C ∧ nsIn K mainGlobals f = some (some (.ref C)) ∧ keepIn K (.ref C) = true ∧ Makes w K n C
section
variable {w : World} {A : Around} {E : Value → Shared → Prop} {s s₁ : Shared} {cls : Cx} {h₀ : Heap} {ι : List Addr} {σ σ1 σ2 : Sg} {sc : Scope} {env : Env} {ρ : Rho}
theorem name_sound {x : Str} {pos : Pos} {v : V} (es : EnvSt sc env) (e : EnvOK cls s.heap ι sc env ρ) (k : Ok cls h₀ s.heap ι σ) (hv : ρ x = some v) : wpAny (model prog w) A (eval (.Name x pos) env) (Ret cls h₀ ι s σ v) E s := by
  obtain ⟨hok, hk⟩ := e.dom x v hv
  unfold nameOk at hok
  simp only [Bool.and_eq_true, Bool.not_eq_true'] at hok
  refine wpAny_Name ?_ hok.1
  rcases hk with hl | ⟨hc, c, hcl⟩
  · refine el_EA e.ns fun m hn hd => ?_
    refine el_EA (hd x v hl hv) fun u h3 h4 => ?_
    exact wpAny_loadName_local es.fn ((es.km x (by rw [hl]; simp)).trans hl) hn h3 (After.same k rfl rfl rfl h4)
  · refine el_EA (e.ce x c hcl) fun o ho hd => ?_
    obtain ⟨u, rfl, h4⟩ := hd v hc hv
    rcases hc with hc | hc
    · exact wpAny_loadName_cell es.fn ((es.km x (by rw [hc]; simp)).trans hc) hcl ho (After.same k rfl rfl rfl h4)
    · rcases es.kf x hc with hq | hq
      · exact wpAny_loadName_free es.fn hq hcl ho (After.same k rfl rfl rfl h4) hok.2
      · exact wpAny_loadName_cell es.fn hq hcl ho (After.same k rfl rfl rfl h4)
variable {cf : CF} {K : Frag} {n : Nat}
theorem glob_name {f : Str} {pos : Pos} {v : Value} {Q : Value → Shared → Prop} (F : Facts w cf K h₀ n) (es : EnvSt sc env) (k : Ok cls h₀ s.heap ι σ) (hg : isGlob sc f = true) (hv : nsIn K mainGlobals f = some (some v)) (h : Q v s) :
    wpAny (model prog w) A (eval (.Name f pos) env) Q E s := by
  unfold isGlob nameOk at hg
  simp only [Bool.and_eq_true, Bool.not_eq_true', beq_iff_eq] at hg
  refine el_EEAA F.G fun mg mb g1 g2 _ => ?_
  have hm := mg_of F.X g1 hv
  refine Calls.Name_function_global es.fn ((es.km f (by rw [hg.1]; simp)).trans hg.1) (Calls.loadGlobal_global (mg := mg) ?_ hm h) hg.2.1
  rw [es.gl]
  exact g1.at' fun o e => k.stay _ o e
theorem glob_builtin {f : Str} {pos : Pos} {Q : Value → Shared → Prop} (F : Facts w cf K h₀ n) (es : EnvSt sc env) (k : Ok cls h₀ s.heap ι σ) (hg : isGlob sc f = true) (hf : f ∈ bnames) (h : Q (bvalue f) s) :
    wpAny (model prog w) A (eval (.Name f pos) env) Q E s := by
  unfold isGlob nameOk at hg
  simp only [Bool.and_eq_true, Bool.not_eq_true', beq_iff_eq] at hg
  refine el_EEAA F.G fun mg mb g1 g2 g3 => ?_
  obtain ⟨h1, h2⟩ := g3 f hf
  refine Calls.Name_function_global es.fn ((es.km f (by rw [hg.1]; simp)).trans hg.1) (Calls.loadGlobal_builtin (mg := mg) (mb := mb) ?_ h1 ?_ h2 h) hg.2.1
  · rw [es.gl]; exact g1.at' fun o e => k.stay _ o e
  · rw [es.bl]; exact g2.at' fun o e => k.stay _ o e
theorem const_sound {c : Const} {kk : Nat} {pos : Pos} {x : V} {σ' : Sg} (k : Ok cls h₀ s.heap ι σ) (e : ev P cf sc ρ (.Constant c kk pos) σ = some (x, σ')) : wpAny (model prog w) A (eval (.Constant c kk pos) env) (Ret cls h₀ ι s σ' x) E s := by
  cases c with
  | none =>
    rw [q1] at e
    refine pure_e e ?_
    exact fun _ _ _ => After.same k rfl rfl rfl rfl
  | bool b =>
    rw [q2] at e
    refine pure_e e ?_
    exact fun _ _ _ => After.same k rfl rfl rfl rfl
  | int i =>
    rw [q3] at e
    refine pure_e e ?_
    exact fun _ _ _ => After.same (s' := { s with toks := s.toks + 1 }) k rfl rfl rfl ⟨_, rfl⟩
  | str i =>
    rw [q4] at e
    refine pure_e e ?_
    exact fun _ _ _ => After.same (s' := { s with toks := s.toks + 1 }) k rfl rfl rfl ⟨_, rfl⟩
  | _ => (exact (none_ne (α := V × Sg) e).elim)
noncomputable def noStar : List Expr → Bool
  | [] => true
  | e :: r => !Nat.beq e.ctorIdx 22 && noStar r
theorem star_cons {e : Expr} {r : List Expr} {env : Env} (h : noStar (e :: r) = true) : starEach (e :: r) env = (false, eval e env) :: starEach r env ∧ noStar r = true := by
  cases e <;> first | exact ⟨rfl, h⟩ | (exact (Bool.false_ne_true h).elim)
theorem star_plain (pos : Pos) (env : Env) : ∀ {es : List Expr}, noStar es = true → (backTo pos (starEach es env)).any (·.1) = false
  | [], _ => rfl
  | e :: r, h => by
    obtain ⟨h1, h2⟩ := star_cons (env := env) h
    rw [h1]
    show (false || (backTo pos (starEach r env)).any (·.1)) = false
    rw [star_plain pos env h2]; rfl
theorem evs_noStar : ∀ {es : List Expr} {σ : Sg} {r : List V × Sg}, evs P cf sc ρ es σ = some r → noStar es = true
  | [], _, _, _ => rfl
  | e :: es, σ, r, h => by
    rw [qs2] at h
    refine bind_e h fun v σ₁ h1 h2 => ?_
    refine bind_e h2 fun vs σ₂ h3 _ => ?_
    have ih := evs_noStar h3
    cases e <;> first | exact ih | (exact (none_ne (α := V × Sg) h1).elim)
theorem args_of {f : Value} {pos : Pos} {es : List Expr} {Q : Args → Shared → Prop} (hn : noStar es = true)
    (h : wpAny (model prog w) A (spliced (backTo pos (starEach es env))) (fun vs s' => Q ⟨vs, []⟩ s') E s) : wpAny (model prog w) A (evalArgs f true (backTo pos (starEach es env)) []) Q E s := by
  cases es with
  | nil =>
    unfold evalArgs
    show wpAny _ _ (spliced [] >>= _) Q E s
    refine wpAny_bind (wpAny_mono h (fun vs s' h' => ?_) fun _ _ x => x)
    exact wpAny_bind (wpAny_pure (wpAny_holding (wpAny_bind (wpAny_pure (wpAny_bind (wpAny_pure (wpAny_pure h')))))))
  | cons e r =>
    obtain ⟨h1, h2⟩ := star_cons (env := env) hn
    rw [h1] at h ⊢
    exact Calls.evalArgs_plain h
theorem call_K {f : Value} {first : List Value} {pos : Pos} {es : List Expr} {Q : Value → Shared → Prop} (hk : keepIn K f = true) (hn : noStar es = true)
    (h : wpAny (model prog w) A (spliced (backTo pos (starEach es env))) (fun vs s' => K.In s'.heap ∧ wpAny (model prog w) A (call f (first ++ vs)) Q E s') E s) :
    wpAny (model prog w) A (callWith pos f first (backTo pos (starEach es env)) []) Q E s := by
  refine callWith_of (P := K.In) ?_ (keeps_K hk) (args_of hn h)
  rw [star_plain pos env hn]; rfl
theorem call_type {T : String} {pos : Pos} {es : List Expr} {Q : Value → Shared → Prop} (hn : noStar es = true)
    (h : wpAny (model prog w) A (spliced (backTo pos (starEach es env))) (fun vs s' => wpAny (model prog w) A (call (.type T) vs) Q E s') E s) :
    wpAny (model prog w) A (callWith pos (.type T) [] (backTo pos (starEach es env)) []) Q E s :=
  PySem.callWith_type (star_plain pos env hn) (args_of hn h)
theorem call_built {id : String} {first : List Value} {pos : Pos} {es : List Expr} {Q : Value → Shared → Prop} (hn : noStar es = true)
    (h : wpAny (model prog w) A (spliced (backTo pos (starEach es env))) (fun vs s' => wpAny (model prog w) A (call (.builtin id) (first ++ vs)) Q E s') E s) :
    wpAny (model prog w) A (callWith pos (.builtin id) first (backTo pos (starEach es env)) []) Q E s :=
  Calls.callWith_builtin (star_plain pos env hn) (args_of hn h)
theorem bval_cases (f : Str) : (∃ T, bval f = .type T) ∨ ∃ id, bval f = .builtin id := by
  unfold bval
  split
  · exact .inl ⟨_, rfl⟩
  split
  · exact .inr ⟨_, rfl⟩
  split
  · exact .inl ⟨_, rfl⟩
  split
  · exact .inr ⟨_, rfl⟩
  split
  · exact .inr ⟨_, rfl⟩
  split
  · exact .inl ⟨_, rfl⟩
  · exact .inl ⟨_, rfl⟩
theorem call_bval {f : Str} {pos : Pos} {es : List Expr} {Q : Value → Shared → Prop} (hn : noStar es = true)
    (h : wpAny (model prog w) A (spliced (backTo pos (starEach es env))) (fun vs s' => wpAny (model prog w) A (call (bval f) vs) Q E s') E s) :
    wpAny (model prog w) A (callWith pos (bval f) [] (backTo pos (starEach es env)) []) Q E s := by
  rcases bval_cases f with ⟨T, e⟩ | ⟨id, e⟩
  · rw [e] at h ⊢
    exact call_type hn h
  · rw [e] at h ⊢
    exact call_built (first := []) hn h
end
end Mine
end
section
open PySem PySem.W PyProof.Rows PySem.Spec
set_option maxRecDepth 100000
namespace Mine
section
variable {cls : Cx} {p : Addr → Prop} {h h' h₀ : Heap} {ι ext : List Addr} {σ : Sg}
theorem Dens.stepx (hk : Kx cls ι h h') (hx : ∀ b ∈ ext, h.get? b = none) {xs : List V} {vs : List Value} (d : Dens cls h ι xs vs) : Dens cls h' (ι ++ ext) xs vs :=
  Dens.kx (fun b o hb e => hk b o ⟨fun q => hb.1 (List.mem_append_left _ q), hb.2⟩ e) xs vs (Dens.step (Kp.refl ι h) hx xs vs d)
theorem Den.stepx (hk : Kx cls ι h h') (hx : ∀ b ∈ ext, h.get? b = none) {x : V} {v : Value} (d : Den cls h ι x v) : Den cls h' (ι ++ ext) x v :=
  Den.kx (fun b o hb e => hk b o ⟨fun q => hb.1 (List.mem_append_left _ q), hb.2⟩ e) x v (Den.step (Kp.refl ι h) hx x v d)
theorem Kp.kx (hk : Kp ι h h') : Kx cls ι h h' := fun b o hb e => hk b o hb.1 e
theorem Ok.leave (k : Ok (cls.plus p) h₀ h ι σ) (hk : Kx (cls.plus p) ι h h') (hl : ∀ a ∈ ι, ∀ o, h.get? a = some o → h'.get? a = some o) (he : ∀ a, cls.ex a → ∃ o, h'.get? a = some o) : Ok cls h₀ h' ι σ where
  stay := fun b o e => hk b o ⟨(fun q => by rw [k.new b q] at e; cases e), (fun q => by rw [(k.exs b q).2.2] at e; cases e)⟩ (k.stay b o e)
  new := k.new
  nodup := k.nodup
  len := k.len
  exs := fun a ha => ⟨he a ha, (k.exs a (.inl ha)).2⟩
  obj := fun l a o e1 e2 => ((k.obj l a o e1 e2).kx hk (hl a (List.mem_of_getElem? e1))).minus
end
noncomputable def only (I : Addr) : Addr → Prop := fun a => a = I
noncomputable def ItAt (cls : Cx) (h : Heap) (ι : List Addr) (xs : List V) (tk : Option Nat) (I : Addr) (i : Nat) : Prop :=
  match tk with
  | some l => ∃ a, ι[l]? = some a ∧ h.IsListIter I a i
  | none => (∃ a vs, Out cls ι a ∧ h.IsListIter I a i ∧ PlainLst h a vs ∧ Dens cls h ι xs vs) ∨ (∃ a vs, Out cls ι a ∧ h.IsTupleIter I a i ∧ PlainTup h a vs ∧ Dens cls h ι xs vs) ∨
    ∃ (lo : Int) (m : Nat), IsRangeIter h I (lo + (i : Nat) * 1) ((m : Int) - (i : Nat)) 1 ∧ xs = (List.range m).map fun (k : Nat) => V.int (lo + k)
section
variable {cls : Cx} {h h' h₀ : Heap} {ι ext : List Addr} {σ σ' : Sg} {xs : List V} {tk : Option Nat} {I : Addr} {i : Nat}
theorem ItAt.keep (x : ItAt cls h ι xs tk I i) (hI : ∀ o, h.get? I = some o → h'.get? I = some o) (hk : Kx cls ι h h') (hx : ∀ b ∈ ext, h.get? b = none) : ItAt cls h' (ι ++ ext) xs tk I i := by
  cases tk with
  | some l =>
    refine el_EA x fun a e q => ?_
    exact ⟨a, getI_ext e, q.at hI⟩
  | none =>
    rcases x with ⟨a, vs, o, q, ⟨n, p⟩, ds⟩ | ⟨a, vs, o, q, ⟨n, p⟩, ds⟩ | ⟨lo, m, q, e⟩
    · exact .inl ⟨a, vs, out_ext hx o p, q.at hI, ⟨n, hk _ _ o p⟩, Dens.stepx hk hx ds⟩
    · exact .inr (.inl ⟨a, vs, out_ext hx o p, q.at hI, ⟨n, hk _ _ o p⟩, Dens.stepx hk hx ds⟩)
    · exact .inr (.inr ⟨lo, m, hI _ q, e⟩)
noncomputable def itNames : List String := ["list_iterator", "tuple_iterator", "range_iterator"]
theorem ItAt.obj (x : ItAt cls h ι xs tk I i) : ∃ T vs, T ∈ itNames ∧ ∃ o, h.get? I = some o ∧ o.cls = .type T ∧ o.data = .fields vs := by
  cases tk with
  | some l => obtain ⟨a, e, o, h1, h2, h3⟩ := x; exact ⟨_, _, by simp [itNames], o, h1, h2, h3⟩
  | none =>
    rcases x with ⟨a, vs, _, ⟨o, h1, h2, h3⟩, _⟩ | ⟨a, vs, _, ⟨o, h1, h2, h3⟩, _⟩ | ⟨lo, m, q, e⟩
    · exact in_EEAEAA _ _ (by simp [itNames]) o h1 h2 h3
    · exact in_EEAEAA _ _ (by simp [itNames]) o h1 h2 h3
    · exact in_EEAEAA _ _ (by simp [itNames]) _ q rfl rfl
end
section
variable {w : World} {A : Around} {E : Value → Shared → Prop} {s s₁ : Shared} {cls : Cx} {h₀ : Heap} {ι : List Addr} {σ σ' σ1 σ2 : Sg} {xs : List V} {tk : Option Nat} {I : Addr} {i : Nat}
theorem letOwned {t : Expr} {v : Value} {Q : Unit → Shared → Prop} (x : ItAt cls s.heap ι xs tk I i) (h : Q () s) : wpAny (model prog w) A (letOwnedTupleGo t (.ref I) v) Q E s := by
  refine el_EEAEAA x.obj fun T vs hT o h1 h2 h3 => ?_
  have go : wpAny (model prog w) A (do
      let (.ref r, .ref a) := (Value.ref I, v) | return
      let o ← load r
      match o.cls, o.data with
      | .type n, .fields vs =>
        if ["enumerate", "zip", "dict_itemiterator", "dict_reverseitemiterator", "odict_iterator", "itertools.zip_longest", "itertools.pairwise"].contains n && vs[0]? == some (rawInt a) then
          rule "for.unpacks-the-owned-tuple"
          updateField r 0 .none
      | _, _ => pure ()) Q E s := by
    cases v with
    | ref a =>
      refine wpAny_bind (wpAny_load h1 ?_)
      rw [h2, h3]
      dsimp only
      have : ["enumerate", "zip", "dict_itemiterator", "dict_reverseitemiterator", "odict_iterator", "itertools.zip_longest", "itertools.pairwise"].contains T = false := by
        simp only [itNames, List.mem_cons, List.not_mem_nil, or_false] at hT
        rcases hT with rfl | rfl | rfl <;> decide
      rw [this]
      exact wpAny_pure h
    | _ => exact wpAny_pure h
  cases t <;> first | exact go | exact wpAny_pure h
theorem iter_sound {x : V} {v : Value} {Q : Value → Shared → Prop} (k : Ok cls h₀ s.heap ι σ) (d : Den cls s.heap ι x v) (e : walkV x σ = some ((xs, tk), σ'))
    (h : ∀ (I : Addr) (h' : Heap), σ' = σ → (∀ l, tk = some l → σ[l]? = some (.list xs)) → s.heap.get? I = none → (∀ b o, s.heap.get? b = some o → h'.get? b = some o) → ItAt (cls.plus (only I)) h' ι xs tk I 0 → Q (.ref I) { s with heap := h' }) :
    wpAny (model prog w) A (pyIter v) Q E s := by
  cases x <;> first | exact fail_e e | skip
  · refine check_e e fun _ e2 => ?_
    cases pure_iff.mp e2
    refine el_EEAAA d fun a vs hq2_ o hn4_ ds => ?_
    refine eq_l hq2_ ?_
    obtain ⟨n, p⟩ := hn4_
    have hp : ∀ c, only s.heap.objs.size c → s.heap.get? c = none := fun c q => by rw [show c = _ from q]; exact get?_size _
    refine wpAny_pyIter_tuple (plainTup_isTuple ⟨n, p⟩) (h _ _ rfl (fun _ q => (fail_e q)) (get?_size _) (fun b o e => Heap.get?_push_of_some _ e) (.inr (.inl ⟨a, vs, out_plus hp o p, ⟨_, Heap.get?_push_size _ rfl, rfl, rfl⟩, ⟨n, Heap.get?_push_of_some _ p⟩, Dens.kp (fun b o _ e => Heap.get?_push_of_some _ e) (Dens.plus hp _ _ ds)⟩)))
  · refine check_e e fun _ e2 => ?_
    cases pure_iff.mp e2
    refine el_EEAAA d fun a vs hq2_ o hn4_ ds => ?_
    refine eq_l hq2_ ?_
    obtain ⟨n, p⟩ := hn4_
    have hp : ∀ c, only s.heap.objs.size c → s.heap.get? c = none := fun c q => by rw [show c = _ from q]; exact get?_size _
    refine wpAny_pyIter_list (pll ⟨n, p⟩) (h _ _ rfl (fun _ q => (fail_e q)) (get?_size _) (fun b o e => Heap.get?_push_of_some _ e) (.inl ⟨a, vs, out_plus hp o p, ⟨_, Heap.get?_push_size _ rfl, rfl, rfl⟩, ⟨n, Heap.get?_push_of_some _ p⟩, Dens.kp (fun b o _ e => Heap.get?_push_of_some _ e) (Dens.plus hp _ _ ds)⟩))
  · rename_i lo hi
    refine check_e e fun hl e2 => ?_
    cases pure_iff.mp e2
    simp only [Bool.and_eq_true, decide_eq_true_eq] at hl
    refine el_EAA d fun a hq1_ o hn3_ => ?_
    refine eq_l hq1_ ?_
    obtain ⟨t, u, v, p⟩ := hn3_
    have hsize : Builtin.Range.rangeSize lo hi 1 = ((hi - lo).toNat : Int) := by
      unfold Builtin.Range.rangeSize
      rw [if_pos (by decide)]
      by_cases hlt : lo < hi
      · rw [if_pos hlt, Int.ediv_one]; lia
      · rw [if_neg hlt]; lia
    refine wpAny_pyIter_range p ?_ (h _ _ rfl (fun _ q => (fail_e q)) (get?_size _) (fun b o e => Heap.get?_push_of_some _ e) (.inr (.inr ⟨lo, (hi - lo).toNat, ?_, rfl⟩)))
    · exact PySem.small_one (by lia) (by lia) (by lia) (by lia)
    · rw [hsize]
      have e1 : lo + ((0 : Nat) : Int) * 1 = lo := by simp
      have e2 : (((hi - lo).toNat : Nat) : Int) - ((0 : Nat) : Int) = ((hi - lo).toNat : Int) := by simp
      rw [e1, e2]
      exact Heap.get?_push_size _ rfl
  · refine getList_e e fun ys q e4 => ?_
    · refine check_e e4 fun _ e2 => ?_
      cases pure_iff.mp e2
      refine el_EA d fun a hq1_ ha => ?_
      refine eq_l hq1_ ?_
      refine el_EA (k.obj _ _ _ ha q) fun vs hn1_ ds => ?_
      obtain ⟨n, p⟩ := hn1_
      exact wpAny_pyIter_list (pll ⟨n, p⟩) (h _ _ rfl (fun _ z => by cases z; exact q) (get?_size _) (fun b o e => Heap.get?_push_of_some _ e) ⟨a, ha, _, Heap.get?_push_size _ rfl, rfl, rfl⟩)
theorem next_item {x : V} {Q : Option Value → Shared → Prop} (k : Ok cls h₀ s.heap ι σ) (hI : cls.ex I) (hs : ∀ l, tk = some l → σ[l]? = some (.list xs)) (a : ItAt cls s.heap ι xs tk I i) (hx : xs[i]? = some x)
    (h : ∀ v h' t, Heap.SameBut I s.heap h' → (∃ o, h'.get? I = some o) → Den cls h' ι x v → ItAt cls h' ι xs tk I (i + 1) → Q (some v) { s with heap := h', toks := t }) : wpAny (model prog w) A (pyNext (.ref I)) Q E s := by
  cases tk with
  | some l =>
    refine el_EA a fun c e q => ?_
    refine el_EA (k.obj l c _ e (hs l rfl)) fun vs p ds => ?_
    refine el_EA (Dens.get ds hx) fun v hv dv => ?_
    refine wpAny_pyNext_list_item q (pll p) (by rw [List.getElem?_toArray]; exact hv) fun h' q' sb => ?_
    exact h v h' s.toks sb (let ⟨o, e, _⟩ := q'; ⟨o, e⟩) (Den.kx (kx_sameBut hI sb) _ _ dv) ⟨c, e, q'⟩
  | none =>
    rcases a with ⟨c, vs, o, q, p, ds⟩ | ⟨c, vs, o, q, p, ds⟩ | ⟨lo, m, q, e⟩
    · refine el_EA (Dens.get ds hx) fun v hv dv => ?_
      refine wpAny_pyNext_list_item q (pll p) (by rw [List.getElem?_toArray]; exact hv) fun h' q' sb => ?_
      obtain ⟨n, p⟩ := p
      exact h v h' s.toks sb (let ⟨o, e, _⟩ := q'; ⟨o, e⟩) (Den.kx (kx_sameBut hI sb) _ _ dv) (.inl ⟨c, vs, o, q', ⟨n, kx_sameBut hI sb _ _ o p⟩, Dens.kx (kx_sameBut hI sb) _ _ ds⟩)
    · refine el_EA (Dens.get ds hx) fun v hv dv => ?_
      refine wpAny_pyNext_tuple_item q (plainTup_isTuple p) (by rw [List.getElem?_toArray]; exact hv) fun h' q' sb => ?_
      obtain ⟨n, p⟩ := p
      exact h v h' s.toks sb (let ⟨o, e, _⟩ := q'; ⟨o, e⟩) (Den.kx (kx_sameBut hI sb) _ _ dv) (.inr (.inl ⟨c, vs, o, q', ⟨n, kx_sameBut hI sb _ _ o p⟩, Dens.kx (kx_sameBut hI sb) _ _ ds⟩))
    · subst e
      have hi : i < m := by have := (List.getElem?_eq_some_iff.mp hx).1; simpa using this
      rw [List.getElem?_map, List.getElem?_range hi] at hx
      simp only [Option.map_some, Option.some.injEq] at hx
      refine wpAny_pyNext_range_item q (by exact lini [_,_] (.h 1 1 (.v 0) (.v 1) (.g 1 1 (.c 0) (.s (.v 1) (.v 0)))) rfl (Int.ofNat_lt.mpr hi)) fun h' q' sb => ?_
      refine h _ h' _ sb ⟨_, q'⟩ (by rw [← hx]; exact ⟨s.toks, by rw [Int.mul_one]⟩) (.inr (.inr ⟨lo, m, ?_, rfl⟩))
      have e1 : lo + ((i + 1 : Nat) : Int) * 1 = lo + (i : Int) * 1 + 1 := by push_cast; exact Int.le_antisymm (lini [_,_] (.g 1 0 (.a (.v 0) (.r (.a (.v 1) (.c 1)) 1)) (.a (.a (.v 0) (.r (.v 1) 1)) (.c 1))) rfl) (lini [_,_] (.g 1 0 (.a (.a (.v 0) (.r (.v 1) 1)) (.c 1)) (.a (.v 0) (.r (.a (.v 1) (.c 1)) 1))) rfl)
      have e2 : (m : Int) - ((i + 1 : Nat) : Int) = (m : Int) - (i : Int) - 1 := by push_cast; exact Int.le_antisymm (lini [_,_] (.g 1 0 (.s (.v 0) (.a (.v 1) (.c 1))) (.s (.s (.v 0) (.v 1)) (.c 1))) rfl) (lini [_,_] (.g 1 0 (.s (.s (.v 0) (.v 1)) (.c 1)) (.s (.v 0) (.a (.v 1) (.c 1)))) rfl)
      rw [e1, e2]; exact q'
theorem next_end {Q : Option Value → Shared → Prop} (hh : A.handled = none) (k : Ok cls h₀ s.heap ι σ) (hs : ∀ l, tk = some l → σ[l]? = some (.list xs)) (a : ItAt cls s.heap ι xs tk I i) (hx : xs[i]? = none)
    (h : ∀ h', Heap.ExtBut I s.heap h' → Q none { s with heap := h' }) : wpAny (model prog w) A (pyNext (.ref I)) Q E s := by
  have hle : xs.length ≤ i := List.getElem?_eq_none_iff.mp hx
  cases tk with
  | some l =>
    refine el_EA a fun c e q => ?_
    refine el_EA (k.obj l c _ e (hs l rfl)) fun vs p ds => ?_
    exact wpAny_pyNext_list_end hh q (pll p) (by rw [List.getElem?_toArray]; exact List.getElem?_eq_none (by rw [Dens.length ds]; exact hle)) h
  | none =>
    rcases a with ⟨c, vs, o, q, p, ds⟩ | ⟨c, vs, o, q, p, ds⟩ | ⟨lo, m, q, e⟩
    · exact wpAny_pyNext_list_end hh q (pll p) (by rw [List.getElem?_toArray]; exact List.getElem?_eq_none (by rw [Dens.length ds]; exact hle)) h
    · exact wpAny_pyNext_tuple_end hh q (plainTup_isTuple p) (by rw [List.getElem?_toArray]; exact List.getElem?_eq_none (by rw [Dens.length ds]; exact hle)) h
    · subst e
      rw [List.length_map, List.length_range] at hle
      exact wpAny_pyNext_range_end hh q (by exact lini [_,_] (.h 1 0 (.v 0) (.v 1) (.g 1 0 (.s (.v 0) (.v 1)) (.c 0))) rfl (Int.ofNat_le.mpr hle)) h
end
end Mine
end
section
open PySem PySem.W PyProof.Rows PySem.Spec
set_option maxRecDepth 100000
namespace Mine
noncomputable def OwnAt (sc : Scope) (env : Env) (b : Addr) : Prop := b = env.locals ∨ ∃ x, sc.names.lookup x = some .cell ∧ env.cells.lookup x = some b
structure Asg (cls : Cx) (h₀ : Heap) (ι : List Addr) (σ : Sg) (sc : Scope) (env : Env) (ρ' : Rho) (s s' : Shared) : Prop where
  gens : s'.gens = s.gens
  os : s'.os = s.os
  keep : ∀ b o, ¬ OwnAt sc env b → s.heap.get? b = some o → s'.heap.get? b = some o
  ok : Ok cls h₀ s'.heap ι σ
  env : EnvOK cls s'.heap ι sc env ρ'
theorem OwnAt.ex {cls : Cx} {sc : Scope} {env : Env} {b : Addr} (fe : FrameEx cls env) (h : OwnAt sc env b) : cls.ex b := by
  rcases h with rfl | ⟨x, _, h⟩
  · exact fe.l
  · exact fe.c x b h
theorem Asg.kx {cls : Cx} {h₀ : Heap} {ι : List Addr} {σ : Sg} {sc : Scope} {env : Env} {ρ' : Rho} {s s' : Shared} (a : Asg cls h₀ ι σ sc env ρ' s s') (fe : FrameEx cls env) : Kx cls ι s.heap s'.heap :=
  fun b o hb e => a.keep b o (fun q => hb.2 (q.ex fe)) e
theorem Asg.trans {cls : Cx} {h₀ : Heap} {ι : List Addr} {σ : Sg} {sc : Scope} {env : Env} {ρ1 ρ2 : Rho} {s s' s'' : Shared} (a : Asg cls h₀ ι σ sc env ρ1 s s') (b : Asg cls h₀ ι σ sc env ρ2 s' s'') : Asg cls h₀ ι σ sc env ρ2 s s'' :=
  ⟨b.gens.trans a.gens, b.os.trans a.os, fun c o hc e => b.keep c o hc (a.keep c o hc e), b.ok, b.env⟩
section
variable {w : World} {A : Around} {E : Value → Shared → Prop} {s : Shared} {cls : Cx} {h₀ : Heap} {ι : List Addr} {σ σ' : Sg} {sc : Scope} {env : Env} {ρ ρ' : Rho}
theorem store_sound {x : Str} {v : V} {u : Value} {Q : Unit → Shared → Prop} (fe : FrameEx cls env) (es : EnvSt sc env) (k : Ok cls h₀ s.heap ι σ) (e : EnvOK cls s.heap ι sc env ρ) (d : Den cls s.heap ι v u) (hx : isOwn sc x = true)
    (h : ∀ s', Asg cls h₀ ι σ sc env (upd ρ x v) s s' → Q () s') : wpAny (model prog w) A (storeName env x u) Q E s := by
  unfold isOwn at hx
  simp only [Bool.and_eq_true, Bool.or_eq_true, beq_iff_eq] at hx
  obtain ⟨hx, hok⟩ := hx
  rcases hx with hx | hx
  · refine el_EA e.ns fun m hn _ => ?_
    refine wpAny_storeName_local ((es.km x (by rw [hx]; simp)).trans hx) hn (fun h' hn' hs => h _ ⟨rfl, rfl, fun b o hb q => (hs.2 b fun z => hb (.inl z)).trans q, k.exch fe.l hs ?_, e.local fe es hx hok hn hn' hs d⟩) (by rw [es.fn]; rfl)
    obtain ⟨o, _, _, q, _⟩ := hn'; exact ⟨o, q⟩
  · obtain ⟨c, hc⟩ := es.own x hx
    refine el_EA (e.ce x c hc) fun o ho _ => ?_
    refine wpAny_storeName_cell es.fn ((es.km x (by rw [hx]; simp)).trans hx) hc ho fun h' hn' hs => h _ ⟨rfl, rfl, fun b o hb q => (hs.2 b fun z => hb (.inr ⟨x, hx, by rw [z]; exact hc⟩)).trans q, k.exch (fe.c x c hc) hs ?_, e.cell fe es hx hok hc hn' hs d⟩
    obtain ⟨o, q, _⟩ := hn'; exact ⟨o, q⟩
theorem order_sound (fe : FrameEx cls env) (es : EnvSt sc env) : ∀ (xs : List Str) (fs : List (Value → Sem Unit)) (vs : List V) (us : List Value) (ρ : Rho) (s : Shared) {Q : Unit → Shared → Prop}, fs.length = xs.length → xs.length = vs.length →
    (∀ (j : Nat) f x, fs[j]? = some f → xs[j]? = some x → ∀ (u : Value) (s : Shared) (Q : Unit → Shared → Prop), wpAny (model prog w) A (storeName env x u) Q E s → wpAny (model prog w) A (f u) Q E s) →
    xs.all (isOwn sc) = true → Ok cls h₀ s.heap ι σ → EnvOK cls s.heap ι sc env ρ → Dens cls s.heap ι vs us →
    (∀ s', Asg cls h₀ ι σ sc env (bindAll xs vs ρ) s s' → Q () s') → wpAny (model prog w) A (assignInOrder fs us) Q E s
  | [], fs, vs, us, ρ, s, Q, hl, hl2, hf, ho, k, e, d, h => by
    have : fs = [] := List.length_eq_zero_iff.mp hl
    refine eq_l this ?_
    have : vs = [] := List.length_eq_zero_iff.mp hl2.symm
    subst this
    rw [show us = [] from d]
    exact wpAny_pure (h s ⟨rfl, rfl, fun _ _ _ q => q, k, e⟩)
  | x :: xs, [], vs, us, ρ, s, Q, hl, hl2, hf, ho, k, e, d, h => by simp at hl
  | x :: xs, f :: fs, [], us, ρ, s, Q, hl, hl2, hf, ho, k, e, d, h => by simp at hl2
  | x :: xs, f :: fs, v :: vs, _, ρ, s, Q, hl, hl2, hf, ho, k, e, ⟨u, us, rfl, du, dus⟩, h => by
    simp only [List.all_cons, Bool.and_eq_true] at ho
    refine wpAny_bind (wpAny_holding (hf 0 f x rfl rfl u s _ (store_sound fe es k e du ho.1 fun s' a => ?_)))
    refine order_sound fe es xs fs vs us (upd ρ x v) s' (by simpa using hl) (by simpa using hl2) (fun j f' x' h1 h2 => hf (j + 1) f' x' (by simpa using h1) (by simpa using h2)) ho.2 a.ok a.env (Dens.kx (a.kx fe) _ _ dus) fun s'' b => h s'' (a.trans b)
theorem namesOf_cons {t : Expr} {r : List Expr} {xs : List Str} (h : namesOf (t :: r) = some xs) : ∃ y p ys, t = .Name y p ∧ namesOf r = some ys ∧ xs = y :: ys := by
  refine el_EA (Option.bind_eq_some_iff.mp h) fun y h0 h => ?_
  refine el_E (nameOf_e h0) fun p hp => ?_
  refine el_EA (Option.map_eq_some_iff.mp h) fun ys h1 h2 => ?_
  exact in_EEEAA y p ys hp h1 h2.symm
theorem namesOf_spec : ∀ {ts : List Expr} {xs : List Str}, namesOf ts = some xs → ts.length = xs.length ∧ (∀ (env : Env) (j : Nat) f x, ((assignEach ts env).map (·.2))[j]? = some f → xs[j]? = some x → ∃ pos, f = assign (.Name x pos) env) ∧
    (∀ env, (assignEach ts env).length = xs.length) ∧ (∀ env, (assignEach ts env).findIdx? (·.1) = none) ∧ ∀ (j : Nat) t x, ts[j]? = some t → xs[j]? = some x → ∃ pos, t = .Name x pos
  | [], xs, h => by cases h; exact ⟨rfl, fun env j f x h => by simp [arm_assignEach_nil] at h, fun env => rfl, fun env => rfl, fun j t x h => by simp at h⟩
  | t :: r, xs, h => by
      refine el_EEEAA (namesOf_cons h) fun y p ys hq3_ hr hq5_ => ?_
      refine eq_l hq3_ ?_
      refine eq_l hq5_ ?_
      refine el_AAAA (namesOf_spec hr) fun h1 h2 h3 h4 h5 => ?_
      have e : ∀ env, assignEach (.Name y p :: r) env = (false, assign (.Name y p) env) :: assignEach r env := fun env => rfl
      refine in_AAAA (by simp [h1]) (fun env j f x hf hx => ?_) (fun env => by rw [e]; simp [h3 env]) (fun env => by rw [e, List.findIdx?_cons]; simp [h4 env]) (fun j t x ht hx => ?_)
      · rw [e] at hf
        cases j with
        | zero => simp at hf hx; subst hx; exact ⟨p, hf.symm⟩
        | succ j => exact h2 env j f x (by simpa using hf) (by simpa using hx)
      · cases j with
        | zero => simp at ht hx; subst hx; exact ⟨p, ht.symm⟩
        | succ j => exact h5 j t x (by simpa using ht) (by simpa using hx)
theorem asgT_sound {t : Expr} {v : V} {u : Value} {Q : Unit → Shared → Prop} (hh : A.handled = none) (fe : FrameEx cls env) (es : EnvSt sc env) (k : Ok cls h₀ s.heap ι σ) (e : EnvOK cls s.heap ι sc env ρ) (d : Den cls s.heap ι v u) (he : asgT sc t v ρ σ = some (ρ', σ'))
    (h : ∀ s', σ' = σ → Asg cls h₀ ι σ sc env ρ' s s' → Q () s') : wpAny (model prog w) A (assign t env u) Q E s := by
  cases t with
  | Name x p0 =>
    refine check_e (show (do check (isOwn sc x); pure (upd ρ x v) : M Rho) σ = some (ρ', σ') from he) fun hx e2 => ?_
    cases pure_iff.mp e2
    exact wpAny_assign_Name (store_sound fe es k e d hx fun s' a => h s' rfl a)
  | Tuple ts k0 p0 =>
    rw [qa2] at he
    refine el_EEA (bind_iff.mp he) fun xs σ₁ e1 e2 => ?_
    refine el_EA (need_iff.mp e1) fun xs' hxs q => ?_
    cases q
    split at e2
    · obtain ⟨⟨⟩, σ₂, e3, e4⟩ := bind_iff.mp e2
      obtain ⟨hc, q⟩ := check_iff.mp e3
      cases q
      cases pure_iff.mp e4
      simp only [Bool.and_eq_true, beq_iff_eq, decide_eq_true_eq] at hc
      obtain ⟨⟨hlen, hown⟩, _⟩ := hc
      refine el_EEAAA d fun c us hq2_ o p ds => ?_
      refine eq_l hq2_ ?_
      refine el_AAAA (namesOf_spec hxs) fun h1 h2 h3 h4 _ => ?_
      have hul := Dens.length ds
      refine wpAny_assign_Tuple (items := us.toArray) hh (plainTup_isTuple p) (by rw [h3, List.size_toArray]; exact Nat.le_antisymm (lin [_,_,_] (.h 1 3 (.v 0) (.v 1) (.h 1 3 (.v 2) (.v 0) (.g 1 0 (.v 1) (.v 2)))) rfl hlen hul) (lin [_,_,_] (.h 1 2 (.v 0) (.v 1) (.h 1 2 (.v 2) (.v 0) (.g 1 0 (.v 2) (.v 1)))) rfl hlen hul)) (h4 env) fun h' hb => ?_
      have hk : ∀ b o, s.heap.get? b = some o → h'.get? b = some o := fun b o q => hb b o (addr_ne (Heap.lt_size q)) q
      refine order_sound (s := { s with heap := h' }) fe es xs _ _ us ρ (by rw [List.length_map, h3]) (by exact Nat.le_antisymm (lin [_,_] (.h 1 3 (.v 0) (.v 1) (.g 1 0 (.v 1) (.v 0))) rfl hlen) (lin [_,_] (.h 1 2 (.v 0) (.v 1) (.g 1 0 (.v 0) (.v 1))) rfl hlen)) (fun j f x hf hx u s Q hq => ?_) hown (k.grow hk) ?_ (ds.kp fun b o _ q => hk b o q) fun s' a => ?_
      · refine el_E (h2 env j f x hf hx) fun pos hq1_ => ?_
        refine eq_l hq1_ ?_
        exact wpAny_assign_Name hq
      · have := e.step fe k (ext := []) (h' := h') ⟨fun b o _ q => hk b o q, fun _ q => (List.not_mem_nil q).elim⟩
        rwa [List.append_nil] at this
      · exact h s' rfl ⟨a.gens, a.os, fun b o hb q => a.keep b o hb (hk b o q), a.ok, a.env⟩
    · exact (fail_iff.mp e2).elim
  | _ => exact (none_ne (α := Rho × Sg) he).elim
theorem bindAll_upd {x : Str} {v : V} : ∀ (xs : List Str) (vs : List V) (ρ : Rho), x ∉ xs → bindAll xs vs (upd ρ x v) = upd (bindAll xs vs ρ) x v
  | [], _, _, _ => rfl
  | y :: xs, [], _, _ => rfl
  | y :: xs, u :: vs, ρ, h => by
    have hxy : x ≠ y := fun q => h (by simp [q])
    have : upd (upd ρ x v) y u = upd (upd ρ y u) x v := by
      funext z
      unfold upd
      by_cases h1 : z = y
      · subst h1
        have : ¬ z = x := fun q => hxy q.symm
        simp [this]
      · simp [h1]
    show bindAll xs vs (upd (upd ρ x v) y u) = upd (bindAll xs vs (upd ρ y u)) x v
    rw [this]
    exact bindAll_upd xs vs (upd ρ y u) fun q => h (List.mem_cons_of_mem _ q)
theorem bindAll_snoc {x : Str} {v : V} : ∀ (xs : List Str) (vs : List V) (ρ : Rho), xs.length = vs.length → bindAll (xs ++ [x]) (vs ++ [v]) ρ = upd (bindAll xs vs ρ) x v
  | [], [], _, _ => rfl
  | y :: xs, u :: vs, ρ, h => by
    exact bindAll_snoc xs vs _ (by simpa using h)
  | [], _ :: _, _, h => by simp at h
  | _ :: _, [], _, h => by simp at h
theorem bindAll_rev : ∀ (xs : List Str) (vs : List V) (ρ : Rho), xs.length = vs.length → xs.Nodup → bindAll xs.reverse vs.reverse ρ = bindAll xs vs ρ
  | [], [], _, _, _ => rfl
  | y :: xs, u :: vs, ρ, h, hn => by
    obtain ⟨h1, h2⟩ := List.nodup_cons.mp hn
    rw [List.reverse_cons, List.reverse_cons, bindAll_snoc _ _ _ (by simpa using h), bindAll_rev xs vs ρ (by simpa using h) h2]
    exact (bindAll_upd xs vs ρ h1).symm
  | [], _ :: _, _, h, _ => by simp at h
  | _ :: _, [], _, h, _ => by simp at h
theorem Dens.rev {h : Heap} : ∀ {xs : List V} {vs : List Value}, Dens cls h ι xs vs → Dens cls h ι xs.reverse vs.reverse
  | [], vs, d => by rw [show vs = [] from d]; rfl
  | x :: xs, _, ⟨v, r, rfl, d, ds⟩ => by
    rw [List.reverse_cons, List.reverse_cons]
    exact Dens.append (Dens.rev ds) (Dens.one d)
end
end Mine
end
section
open PySem PySem.W PyProof.Rows PySem.Spec
set_option maxRecDepth 100000
namespace Mine
noncomputable def cTests (ifs : List Expr) (env : Env) : Sem Bool := forIn ifs true fun c r => if r = true then do let ok ← isTrue c env (eval c env); pure (ForInStep.yield ok) else pure (ForInStep.yield r)
noncomputable def cPiece (elt : Expr) (gens : List Comprehension) (scope : Scope) (pos : Pos) (d : Nat) (acc : Value) (env : Env) (k : Sem Fin) : Sem Fin :=
  match gens[d + 1]? with
  | some g' => do
    let x ← eval g'.iter env
    standAt g'.iter.pos
    let x ← foldedSetIterable g'.iter env x
    let it ← holding [x] (pyIter x)
    let _ ← runOwn (.compStart (.ListComp elt gens scope pos) (d + 1) it acc env) env
    k
  | none => do
    (do
      let x ← eval elt env
      let _ ← call (.builtin "list.append") [acc, x]
      pure ())
    k
theorem compTurn_eq (elt : Expr) (gens : List Comprehension) (scope : Scope) (pos : Pos) (d : Nat) (it acc : Value) (env : Env) (t iter : Expr) (ifs : List Expr) (hg : gens[d]? = some ⟨t, iter, ifs, 0⟩) (ha : ∀ g', gens[d + 1]? = some g' → g'.is_async = 0) :
    compTurn (.ListComp elt gens scope pos) d it acc env = (standAt iter.pos >>= fun _ => pyNext it >>= fun r => match r with
      | none => pure (.done .next)
      | some v => letOwnedTupleGo t it v >>= fun _ => assign t env v >>= fun _ => cTests ifs env >>= fun ok => (if ok = true then cPiece elt gens scope pos d acc env (again (.compLoop (.ListComp elt gens scope pos) d it acc env)) else again (.compLoop (.ListComp elt gens scope pos) d it acc env))) := by
  unfold compTurn
  simp only [hg]
  cases h : gens[d + 1]? with
  | none => simp only [cPiece, h]; rfl
  | some g' =>
    obtain ⟨t', iter', ifs', asy⟩ := g'
    have : asy = 0 := ha _ h
    subst this
    simp only [cPiece, h]
    rfl
end Mine
end
section
open PySem PySem.W PyProof.Rows PySem.Spec
set_option maxRecDepth 100000
namespace Mine
structure StepO (own : Addr → Prop) (ι ext : List Addr) (h h' : Heap) : Prop where
  keep : ∀ b o, b ∉ ι → ¬ own b → h.get? b = some o → h'.get? b = some o
  fresh : ∀ a ∈ ext, h.get? a = none
structure AfterO (own : Addr → Prop) (cls : Cx) (h₀ : Heap) (ι : List Addr) (s : Shared) (σ' : Sg) (R : Heap → List Addr → Prop) (s' : Shared) : Prop where
  gens : s'.gens = s.gens
  os : s'.os = s.os
  ex : ∃ ext, StepO own ι ext s.heap s'.heap ∧ Ok cls h₀ s'.heap (ι ++ ext) σ' ∧ R s'.heap (ι ++ ext)
section
variable {own : Addr → Prop} {cls : Cx} {h₀ h h' : Heap} {ι ext : List Addr} {s s₁ s' : Shared} {σ σ' : Sg} {R R' : Heap → List Addr → Prop}
theorem AfterO.elim {C : Prop} (a : AfterO own cls h₀ ι s σ' R s') (k : s'.gens = s.gens → s'.os = s.os → ∀ ext, StepO own ι ext s.heap s'.heap → Ok cls h₀ s'.heap (ι ++ ext) σ' → R s'.heap (ι ++ ext) → C) : C :=
  let ⟨g, o, ext, st, q, r⟩ := a; k g o ext st q r
theorem StepO.kx (st : StepO own ι ext h h') (ho : ∀ a, own a → cls.ex a) : Kx cls ι h h' := fun b o hb e => st.keep b o hb.1 (fun q => hb.2 (ho b q)) e
theorem Step.o (st : Step ι ext h h') : StepO own ι ext h h' := ⟨fun b o hb _ e => st.keep b o hb e, st.fresh⟩
theorem After.o (a : After cls h₀ ι s σ' R s') : AfterO own cls h₀ ι s σ' R s' := ⟨a.gens, a.os, let ⟨ext, st, r⟩ := a.ex; ⟨ext, st.o, r⟩⟩
theorem AfterO.mono (a : AfterO own cls h₀ ι s σ' R s') (h : ∀ h' ext, StepO own ι ext s.heap h' → R h' (ι ++ ext) → R' h' (ι ++ ext)) : AfterO own cls h₀ ι s σ' R' s' := by
  refine a.elim fun g o ext st k r => ?_
  exact ⟨g, o, ext, st, k, h _ _ st r⟩
theorem AfterO.trans (ho : ∀ a, own a → cls.ex a) (hg : s₁.gens = s.gens) (hos : s₁.os = s.os) (st : StepO own ι ext s.heap s₁.heap) (b : AfterO own cls h₀ (ι ++ ext) s₁ σ' R s') : AfterO own cls h₀ ι s σ' R s' := by
  refine b.elim fun g2 o2 ext' st' k' r' => ?_
  refine ⟨g2.trans hg, o2.trans hos, ext ++ ext', ⟨fun c ob hc hn q => st'.keep c ob (notin_ext st.fresh hc q) hn (st.keep c ob hc hn q), fun a ha => ?_⟩, by rw [← List.append_assoc]; exact k', by rw [← List.append_assoc]; exact r'⟩
  rcases List.mem_append.mp ha with q | q
  · exact st.fresh a q
  · cases e : s.heap.get? a with
    | none => rfl
    | some ob =>
      have hn : a ∉ ι := fun z => (List.nodup_append.mp k'.nodup).2.2 a (List.mem_append_left _ z) a q rfl
      have hno : ¬ own a := fun z => (k'.exs a (ho a z)).2.1 (List.mem_append_right _ q)
      have := st'.fresh a q
      rw [st.keep a ob hn hno e] at this; cases this
theorem AfterO.close {own' : Addr → Prop} (a : AfterO own cls h₀ ι s σ' R s') (hf : ∀ b, own b → own' b ∨ s.heap.get? b = none) : AfterO own' cls h₀ ι s σ' R s' := by
  obtain ⟨g, o, ext, st, r⟩ := a
  refine ⟨g, o, ext, ⟨fun b ob hb hn e => st.keep b ob hb (fun q => ?_) e, st.fresh⟩, r⟩
  rcases hf b q with q | q
  · exact hn q
  · rw [q] at e; cases e
theorem AfterO.after (a : AfterO (fun _ => False) cls h₀ ι s σ' R s') : After cls h₀ ι s σ' R s' := by
  obtain ⟨g, o, ext, st, r⟩ := a
  exact ⟨g, o, ext, ⟨fun b ob hb e => st.keep b ob hb (fun q => q) e, st.fresh⟩, r⟩
end
section
variable {w : World} {A : Around} {E : Value → Shared → Prop} {own : Addr → Prop} {s s₁ : Shared} {cls : Cx} {h₀ : Heap} {ι : List Addr} {σ σ1 σ2 : Sg} {sc : Scope} {env : Env} {ρ : Rho}
theorem Asg.afterO {s' : Shared} {ρ' : Rho} (a : Asg cls h₀ ι σ sc env ρ' s s') : AfterO (OwnAt sc env) cls h₀ ι s σ (fun h ι' => EnvOK cls h ι' sc env ρ') s' :=
  ⟨a.gens, a.os, [], ⟨fun b o _ hn e => a.keep b o hn e, fun _ q => (List.not_mem_nil q).elim⟩, by rw [List.append_nil]; exact a.ok, by rw [List.append_nil]; exact a.env⟩
theorem still_spec {xs : List V} {tk : Option Nat} {r : Unit × Sg} (h : (still xs tk) σ = some r) : r = ((), σ) ∧ ∀ l, tk = some l → σ[l]? = some (.list xs) := by
  cases tk with
  | none => exact ⟨pure_iff.mp h, fun _ q => (fail_e q)⟩
  | some l =>
    refine getList_e h fun ys q e2 => ?_
    · obtain ⟨hb, q'⟩ := check_iff.mp e2
      refine ⟨q', fun l' z => ?_⟩
      cases z
      rw [(V.beqs_iff _ _).mp hb]
      exact q
end
end Mine
end
section
open PySem PySem.W PyProof.Rows PySem.Spec
set_option maxRecDepth 100000
namespace Mine
noncomputable def FlD (cls : Cx) (h : Heap) (ι : List Addr) : Fl → Flow → Prop
  | .next, f => f = .next
  | .brk, f => f = .brk
  | .ret v, f => ∃ u, f = .ret u ∧ Den cls h ι v u
theorem FlD.minus {cls : Cx} {p : Addr → Prop} {h : Heap} {ι : List Addr} {fl : Fl} {f : Flow} (x : FlD (cls.plus p) h ι fl f) : FlD cls h ι fl f := by
  cases fl with
  | next => exact x
  | brk => exact x
  | ret v => obtain ⟨u, e, d⟩ := x; exact ⟨u, e, Den.minus _ _ d⟩
structure Walk (own : Addr → Prop) (cls : Cx) (h₀ : Heap) (ι : List Addr) (s : Shared) (σ : Sg) (RR : Heap → List Addr → Prop) (xs : List V) (tk : Option Nat) (I : Addr) (i : Nat) (s' : Shared) : Prop where
  aft : AfterO (fun a => own a ∨ a = I) (cls.plus (only I)) h₀ ι s σ (fun h ι' => RR h ι' ∧ ItAt (cls.plus (only I)) h ι' xs tk I i) s'
  trk : ∀ l, tk = some l → σ[l]? = some (.list xs)
section
variable {w : World} {A : Around} {E : Value → Shared → Prop} {own : Addr → Prop} {s s₁ : Shared} {cls : Cx} {h₀ : Heap} {ι : List Addr} {σ σ1 σ2 : Sg} {RR RR0 : Heap → List Addr → Prop} {xs : List V} {tk : Option Nat} {I : Addr} {i : Nat}
theorem Walk.item {x : V} {Q : Option Value → Shared → Prop} (W : Walk own cls h₀ ι s σ RR xs tk I i s₁) (hRR : ∀ h h' ι', RR h ι' → Heap.SameBut I h h' → RR h' ι') (hx : xs[i]? = some x)
    (h : ∀ v s₂, AfterO (fun a => own a ∨ a = I) (cls.plus (only I)) h₀ ι s σ (fun h ι' => RR h ι' ∧ Den (cls.plus (only I)) h ι' x v ∧ ItAt (cls.plus (only I)) h ι' xs tk I (i + 1)) s₂ → Q (some v) s₂) : wpAny (model prog w) A (pyNext (.ref I)) Q E s₁ := by
  refine W.aft.elim fun g o ext st k rr_ => ?_
  obtain ⟨r, it⟩ := rr_
  have hI : (cls.plus (only I)).ex I := .inr rfl
  refine next_item k hI W.trk it hx fun v h' t sb hob d it' => h v _ ⟨g, o, ext, ⟨fun b ob hb hn e => (sb.2 b fun q => hn (.inr q)).trans (st.keep b ob hb hn e), st.fresh⟩, k.exch hI sb hob, hRR _ _ _ r sb, d, it'⟩
theorem Walk.fin {Q : Option Value → Shared → Prop} (hh : A.handled = none) (W : Walk own cls h₀ ι s σ RR xs tk I i s₁) (hI : s.heap.get? I = none) (hIo : ¬ cls.ex I) (hEnd : ∀ h h' ι', RR h ι' → Heap.ExtBut I h h' → RR0 h' ι') (hx : xs[i]? = none)
    (h : ∀ s₂, AfterO own cls h₀ ι s σ RR0 s₂ → Q none s₂) : wpAny (model prog w) A (pyNext (.ref I)) Q E s₁ := by
  refine W.aft.elim fun g o ext st k rr_ => ?_
  obtain ⟨r, it⟩ := rr_
  have hIl : I ∉ ι ++ ext := (k.exs I (.inr rfl)).2.1
  refine next_end hh k W.trk it hx fun h' eb => h _ ⟨g, o, ext, ⟨fun b ob hb hn e => ?_, st.fresh⟩, ?_, hEnd _ _ _ r eb⟩
  · have hbI : b ≠ I := fun q => by rw [q, hI] at e; cases e
    exact eb b ob hbI (st.keep b ob hb (fun q => q.elim hn hbI) e)
  · refine k.leave (fun b ob hb e => eb b ob (fun q => hb.2 (.inr q)) e) (fun a ha ob e => eb a ob (fun q => hIl (q ▸ ha)) e) fun a ha => ?_
    obtain ⟨⟨ob, e⟩, _⟩ := k.exs a (.inl ha)
    exact ⟨ob, eb a ob (fun q => hIo (q ▸ ha)) e⟩
variable {sc : Scope} {env : Env} {ρ ρ' : Rho}
theorem EnvOK.ext {h h' : Heap} (e : EnvOK (cls.plus (only I)) h ι sc env ρ) (hb : Heap.ExtBut I h h') (hL : I ≠ env.locals) (hC : ∀ x, env.cells.lookup x ≠ some I) : EnvOK cls h' ι sc env ρ := by
  have hk : Kx (cls.plus (only I)) ι h h' := fun b o hb' q => hb b o (fun z => hb'.2 (.inr z)) q
  refine ⟨?_, fun x c hc => ?_, e.dom⟩
  · refine el_EA e.ns fun m hn hd => ?_
    exact ⟨m, hn.at' fun o q => hb _ o (Ne.symm hL) q, fun x v h1 h2 => let ⟨w, h3, h4⟩ := hd x v h1 h2; ⟨w, h3, Den.minus _ _ (Den.kx hk v w h4)⟩⟩
  · refine el_EA (e.ce x c hc) fun o hn1_ hd => ?_
    obtain ⟨ob, ho, hod⟩ := hn1_
    exact ⟨o, ⟨ob, hb _ ob (fun q => hC x (by rw [hc, q])) ho, hod⟩, fun v h1 h2 => let ⟨w, h3, h4⟩ := hd v h1 h2; ⟨w, h3, Den.minus _ _ (Den.kx hk v w h4)⟩⟩
theorem for_sound {t : Expr} {body : List Stmt} {step : V → Rho → M (Fl × Rho)} {R : Result → Shared → Prop} {fl : Fl} {cf : CF} (hh : A.handled = none) (fe : FrameEx cls env) (es : EnvSt sc env) (hI : s.heap.get? I = none) (hIo : ¬ cls.ex I)
    (hstep : ∀ v ρ, step v ρ = (do let ρ' ← asgT sc t v ρ; exs P cf sc ρ' body))
    (hbody : ∀ (ρ : Rho) (σ1 : Sg) (r : Fl × Rho) (σ2 : Sg) (s : Shared) (ι : List Addr) (E : Value → Shared → Prop), Ok (cls.plus (only I)) h₀ s.heap ι σ1 → EnvOK (cls.plus (only I)) s.heap ι sc env ρ → exs P cf sc ρ body σ1 = some (r, σ2) →
      wpAny (model prog w) A (execs body env) (fun f s' => AfterO (OwnAt sc env) (cls.plus (only I)) h₀ ι s σ2 (fun h ι' => EnvOK (cls.plus (only I)) h ι' sc env r.2 ∧ FlD (cls.plus (only I)) h ι' r.1 f) s') E s)
    (W : Walk (OwnAt sc env) cls h₀ ι s σ1 (fun h ι' => EnvOK (cls.plus (only I)) h ι' sc env ρ) xs tk I 0 s₁)
    (he : forM' (still xs tk) step xs ρ σ1 = some ((fl, ρ'), σ2))
    (hR : ∀ f s', AfterO (OwnAt sc env) cls h₀ ι s σ2 (fun h ι' => EnvOK cls h ι' sc env ρ' ∧ FlD cls h ι' fl f) s' → R (.ok f) s') :
    codeAny (model prog w) A (.forLoop t (.ref I) body [] env) R s₁ := by
  have hIL : I ≠ env.locals := fun q => hIo (q ▸ fe.l)
  have hIC : ∀ x, env.cells.lookup x ≠ some I := fun x q => hIo (fe.c x I q)
  have fe' : FrameEx (cls.plus (only I)) env := fe.plus
  have hOI : ¬ OwnAt sc env I := fun q => hIo (q.ex fe)
  have hown : ∀ a, OwnAt sc env a → (cls.plus (only I)).ex a := fun a q => q.ex fe'
  have hown2 : ∀ a, (OwnAt sc env a ∨ a = I) → (cls.plus (only I)).ex a := fun a q => q.elim (hown a) fun z => .inr z
  have hRR : ∀ (ρ : Rho) h h' ι', EnvOK (cls.plus (only I)) h ι' sc env ρ → Heap.SameBut I h h' → EnvOK (cls.plus (only I)) h' ι' sc env ρ := fun ρ h h' ι' e sb => e.other (.inr rfl) sb hIL hIC
  have hleave : ∀ {σ' : Sg} {s' : Shared} {f : Flow}, AfterO (fun a => OwnAt sc env a ∨ a = I) (cls.plus (only I)) h₀ ι s σ' (fun h ι' => EnvOK (cls.plus (only I)) h ι' sc env ρ' ∧ FlD (cls.plus (only I)) h ι' fl f) s' →
      AfterO (OwnAt sc env) cls h₀ ι s σ' (fun h ι' => EnvOK cls h ι' sc env ρ' ∧ FlD cls h ι' fl f) s' := fun {σ' s' f} a => by
    have a' := a.close (own' := OwnAt sc env) fun b hb => hb.elim .inl fun q => .inr (by rw [q]; exact hI)
    refine a'.elim fun g o ext st k rr_ => ?_
    obtain ⟨e, d⟩ := rr_
    exact ⟨g, o, ext, st, k.minus, e.minus, d.minus⟩
  refine codeAny_loop' rfl (fun n s' => ∃ i ρ₁ σ', n = xs.length - i ∧ i ≤ xs.length ∧ Walk (OwnAt sc env) cls h₀ ι s σ' (fun h ι' => EnvOK (cls.plus (only I)) h ι' sc env ρ₁) xs tk I i s' ∧ forM' (still xs tk) step (xs.drop i) ρ₁ σ' = some ((fl, ρ'), σ2))
    (fun n s' hI' => ?_) xs.length ⟨0, ρ, σ1, rfl, Nat.zero_le _, W, by rw [List.drop_zero]; exact he⟩
  refine el_EEEAAA hI' fun i ρ₁ σ' hq3_ hle W' he' => ?_
  refine eq_l hq3_ ?_
  show wpAny _ _ ((forTurn t (.ref I) body [] env).onRaise (fun x => do noteFrame x env; theTreesLotGoes x)) _ _ s'
  refine wpAny_noted ?_
  simp only [forTurn]
  refine wpAny_bind (wpAny_standAt (wpAny_bind (wpAny_onRaise ?_)))
  by_cases hi : i < xs.length
  · have hx : xs[i]? = some xs[i] := List.getElem?_eq_getElem hi
    rw [List.drop_eq_getElem_cons hi, qfo] at he'
    refine bind_e he' fun r σa e1 e2 => ?_
    rw [hstep] at e1
    refine bind_e e1 fun ρa σb e3 e4 => ?_
    refine W'.item (hRR ρ₁) hx fun v s₂ a => ?_
    refine a.elim fun g o ext st k rr_ => ?_
    refine el_AA rr_ fun en d it => ?_
    refine wpAny_bind (letOwned it ?_)
    refine wpAny_bind (asgT_sound hh fe' es k en d e3 fun s₃ hσ as => ?_)
    subst hσ
    have hx3 : Kx (cls.plus (only I)) (ι ++ ext) s₂.heap s₃.heap := as.kx fe'
    have it3 : ItAt (cls.plus (only I)) s₃.heap (ι ++ ext) xs tk I (i + 1) := by
      have := it.keep (ext := []) (h' := s₃.heap) (fun o q => as.keep _ o hOI q) hx3 (fun _ q => (List.not_mem_nil q).elim)
      rwa [List.append_nil] at this
    have st3 : StepO (fun a => OwnAt sc env a ∨ a = I) ι ext s.heap s₃.heap := ⟨fun b ob hb hn q => as.keep b ob (fun z => hn (.inl z)) (st.keep b ob hb hn q), st.fresh⟩
    refine wpAny_bind (wpAny_mono (hbody ρa σb r σa s₃ (ι ++ ext) _ as.ok as.env e4) (fun f s₄ a4 => ?_) fun _ _ z => z)
    refine a4.elim fun g4 o4 ext4 st4 k4 rr_ => ?_
    obtain ⟨en4, fd4⟩ := rr_
    have st4' : StepO (fun a => OwnAt sc env a ∨ a = I) (ι ++ ext) ext4 s₃.heap s₄.heap := ⟨fun b ob hb hn q => st4.keep b ob hb (fun z => hn (.inl z)) q, st4.fresh⟩
    have tot : ∀ {R' : Heap → List Addr → Prop}, R' s₄.heap ((ι ++ ext) ++ ext4) → AfterO (fun a => OwnAt sc env a ∨ a = I) (cls.plus (only I)) h₀ ι s σa R' s₄ := fun {R'} r' =>
      AfterO.trans hown2 (as.gens.trans g) (as.os.trans o) st3 ⟨g4, o4, ext4, st4', k4, r'⟩
    obtain ⟨rf, rρ⟩ := r
    cases rf with
    | next =>
      have hf : f = .next := fd4
      refine eq_l hf ?_
      dsimp only at e2
      obtain ⟨⟨⟩, σc, e5, e6⟩ := bind_iff.mp e2
      obtain ⟨q, htr⟩ := still_spec e5
      cases q
      refine wpAny_pure (.inl ⟨rfl, xs.length - (i + 1), Nat.sub_succ_lt_self _ _ hi, i + 1, rρ, σa, rfl, hi, ⟨tot ⟨en4, ?_⟩, htr⟩, e6⟩)
      exact it3.keep (fun o q => st4.keep _ o (as.ok.exs I (.inr rfl)).2.1 hOI q) (st4.kx hown) st4.fresh
    | brk =>
      have hf : f = .brk := fd4
      refine eq_l hf ?_
      dsimp only at e2
      cases pure_iff.mp e2
      exact wpAny_pure (hR _ _ (hleave (tot ⟨en4, rfl⟩)))
    | ret v' =>
      refine el_EA fd4 fun u hf du => ?_
      refine eq_l hf ?_
      dsimp only at e2
      cases pure_iff.mp e2
      exact wpAny_pure (hR _ _ (hleave (tot ⟨en4, u, rfl, du⟩)))
  · have hx : xs[i]? = none := List.getElem?_eq_none (by exact lin [_,_] (.h 1 5 (.v 0) (.v 1) (.g 1 0 (.v 1) (.v 0))) rfl hi)
    rw [List.drop_eq_nil_of_le (by exact lin [_,_] (.h 1 5 (.v 0) (.v 1) (.g 1 0 (.v 1) (.v 0))) rfl hi)] at he'
    rw [qfn] at he'
    cases pure_iff.mp he'
    refine W'.fin hh hI hIo (RR0 := fun h ι' => EnvOK cls h ι' sc env ρ') (fun h h' ι' e eb => e.ext eb hIL hIC) hx fun s₂ a => ?_
    refine wpAny_pure (.inr ⟨rfl, codeAny_block (wpAny_execs_nil (hR _ _ (a.mono fun h' ext _ e => ⟨e, rfl⟩)))⟩)
end
end Mine
end
section
open PySem PySem.W PyProof.Rows PySem.Spec
set_option maxRecDepth 100000
namespace Mine
noncomputable def DAt (cls : Cx) (D : Addr) (xs : List V) (h : Heap) (ι : List Addr) : Prop := ∃ us c, h.get? D = some { cls := .type "list", data := .seq us.toArray c } ∧ Dens cls h ι xs us
noncomputable def OwnC (sc : Scope) (env : Env) (D : Addr) : Addr → Prop := fun b => OwnAt sc env b ∨ b = D
section
variable {w : World} {A : Around} {E : Value → Shared → Prop} {s s₁ : Shared} {cls : Cx} {h₀ h h' : Heap} {ι ext : List Addr} {σ σ1 σ2 : Sg} {xs ys : List V} {tk : Option Nat} {I D : Addr} {i : Nat} {sc : Scope} {env : Env}
theorem DAt.step {own : Addr → Prop} (d : DAt cls D ys h ι) (st : StepO own ι ext h h') (ho : ∀ a, own a → cls.ex a) (hD : D ∉ ι) (hDo : ¬ own D) : DAt cls D ys h' (ι ++ ext) := by
  refine el_EEA d fun us c e ds => ?_
  exact in_EEA us c (st.keep _ _ hD hDo e) (Dens.stepx (st.kx ho) st.fresh ds)
theorem DAt.sameBut {a : Addr} (d : DAt cls D ys h ι) (ha : cls.ex a) (hs : Heap.SameBut a h h') (hD : D ≠ a) : DAt cls D ys h' ι := by
  refine el_EEA d fun us c e ds => ?_
  exact in_EEA us c ((hs.2 D hD).trans e) (Dens.kx (kx_sameBut ha hs) _ _ ds)
theorem DAt.kx (d : DAt cls D ys h ι) (hk : Kx cls ι h h') (hD : ∀ o, h.get? D = some o → h'.get? D = some o) : DAt cls D ys h' ι := by
  refine el_EEA d fun us c e ds => ?_
  exact in_EEA us c (hD _ e) (Dens.kx hk _ _ ds)
theorem compLoop_sound {elt t iter : Expr} {ifs : List Expr} {gens rest : List Comprehension} {scope : Scope} {pos : Pos} {d : Nat} {cf : CF} {ρ0 : Rho} {emit : List V × Rho → M (List V × Rho)} {step : V → List V × Rho → M (List V × Rho)} {R : Result → Shared → Prop} {p p' : List V × Rho}
    (hg : gens[d]? = some ⟨t, iter, ifs, 0⟩) (hga : ∀ g', gens[d + 1]? = some g' → g'.is_async = 0)
    (hh : A.handled = none) (fe : FrameEx cls env) (es : EnvSt scope env) (hD : cls.ex D) (hDL : D ≠ env.locals) (hDC : ∀ x, env.cells.lookup x ≠ some D) (hI : s.heap.get? I = none) (hIo : ¬ cls.ex I)
    (hstep : ∀ v q, step v q = (do let ρ' ← asgT scope t v q.2; let ok ← tstAll P cf scope ρ' ifs; if ok then evG P cf sc ρ0 scope emit rest false (q.1, ρ') else pure (q.1, ρ')))
    (ht : ∀ (ρ : Rho) (σ1 : Sg) (b : Bool) (σ2 : Sg) (s : Shared) (ι : List Addr) (E : Value → Shared → Prop), Ok (cls.plus (only I)) h₀ s.heap ι σ1 → EnvOK (cls.plus (only I)) s.heap ι scope env ρ → tstAll P cf scope ρ ifs σ1 = some (b, σ2) →
      wpAny (model prog w) A (cTests ifs env) (fun c s' => After (cls.plus (only I)) h₀ ι s σ2 (fun _ _ => c = b) s') E s)
    (hp : ∀ (p : List V × Rho) (σ1 : Sg) (p' : List V × Rho) (σ2 : Sg) (s : Shared) (ι : List Addr) (E : Value → Shared → Prop) (k : Sem Fin) (Qk : Fin → Shared → Prop), Ok (cls.plus (only I)) h₀ s.heap ι σ1 → EnvOK (cls.plus (only I)) s.heap ι scope env p.2 →
      DAt (cls.plus (only I)) D p.1 s.heap ι → evG P cf sc ρ0 scope emit rest false p σ1 = some (p', σ2) →
      (∀ s', AfterO (OwnC scope env D) (cls.plus (only I)) h₀ ι s σ2 (fun h ι' => EnvOK (cls.plus (only I)) h ι' scope env p'.2 ∧ DAt (cls.plus (only I)) D p'.1 h ι') s' → wpAny (model prog w) A k Qk E s') →
      wpAny (model prog w) A (cPiece elt gens scope pos d (.ref D) env k) Qk E s)
    (W : Walk (OwnC scope env D) cls h₀ ι s σ1 (fun h ι' => EnvOK (cls.plus (only I)) h ι' scope env p.2 ∧ DAt (cls.plus (only I)) D p.1 h ι') xs tk I 0 s₁)
    (he : compM (still xs tk) step xs p σ1 = some (p', σ2))
    (hR : ∀ s', AfterO (OwnC scope env D) cls h₀ ι s σ2 (fun h ι' => EnvOK cls h ι' scope env p'.2 ∧ DAt cls D p'.1 h ι') s' → R (.ok .next) s') :
    codeAny (model prog w) A (.compLoop (.ListComp elt gens scope pos) d (.ref I) (.ref D) env) R s₁ := by
  have hIL : I ≠ env.locals := fun q => hIo (q ▸ fe.l)
  have hIC : ∀ x, env.cells.lookup x ≠ some I := fun x q => hIo (fe.c x I q)
  have hID : D ≠ I := fun q => hIo (q ▸ hD)
  have fe' : FrameEx (cls.plus (only I)) env := fe.plus
  have hIex : (cls.plus (only I)).ex I := .inr rfl
  have hDex : (cls.plus (only I)).ex D := .inl hD
  have hOI : ¬ OwnAt scope env I := fun q => hIo (q.ex fe)
  have hOD : ¬ OwnAt scope env D := fun q => by
    rcases q with q | ⟨x, _, q⟩
    · exact hDL q
    · exact hDC x q
  have hownA : ∀ a, OwnAt scope env a → (cls.plus (only I)).ex a := fun a q => q.ex fe'
  have hown : ∀ a, OwnC scope env D a → (cls.plus (only I)).ex a := fun a q => q.elim (hownA a) fun z => z ▸ hDex
  have hown2 : ∀ a, (OwnC scope env D a ∨ a = I) → (cls.plus (only I)).ex a := fun a q => q.elim (hown a) fun z => .inr z
  have hCI : ¬ OwnC scope env D I := fun q => q.elim hOI fun z => hID z.symm
  have hRR : ∀ (p : List V × Rho) h h' ι', (EnvOK (cls.plus (only I)) h ι' scope env p.2 ∧ DAt (cls.plus (only I)) D p.1 h ι') → Heap.SameBut I h h' → EnvOK (cls.plus (only I)) h' ι' scope env p.2 ∧ DAt (cls.plus (only I)) D p.1 h' ι' :=
    fun p h h' ι' e sb => ⟨e.1.other hIex sb hIL hIC, e.2.sameBut hIex sb hID⟩
  refine codeAny_loop rfl (fun n s' => ∃ i q σ', n = xs.length - i ∧ i ≤ xs.length ∧ Walk (OwnC scope env D) cls h₀ ι s σ' (fun h ι' => EnvOK (cls.plus (only I)) h ι' scope env q.2 ∧ DAt (cls.plus (only I)) D q.1 h ι') xs tk I i s' ∧ compM (still xs tk) step (xs.drop i) q σ' = some (p', σ2))
    (fun n s' hI' => ?_) xs.length ⟨0, p, σ1, rfl, Nat.zero_le _, W, by rw [List.drop_zero]; exact he⟩
  refine el_EEEAAA hI' fun i q σ' hq3_ hle W' he' => ?_
  refine eq_l hq3_ ?_
  show wpAny _ A ((compTurn (.ListComp elt gens scope pos) d (.ref I) (.ref D) env).onRaise (fun x => do noteFrame x env; theTreesLotGoes x)) _ _ s'
  refine wpAny_noted ?_
  rw [compTurn_eq elt gens scope pos d (.ref I) (.ref D) env t iter ifs hg hga]
  refine wpAny_bind (wpAny_standAt (wpAny_bind ?_))
  by_cases hi : i < xs.length
  · have hx : xs[i]? = some xs[i] := List.getElem?_eq_getElem hi
    rw [List.drop_eq_getElem_cons hi, qco] at he'
    refine bind_e he' fun r σa e1 e2 => ?_
    rw [hstep] at e1
    refine bind_e e1 fun ρa σb e3 e4 => ?_
    refine bind_e e4 fun ok σc e5 e6 => ?_
    obtain ⟨⟨⟩, σd, e7, e8⟩ := bind_iff.mp e2
    obtain ⟨z, htr⟩ := still_spec e7
    cases z
    refine W'.item (hRR q) hx fun v s₂ a => ?_
    refine a.elim fun g o ext st k rr_ => ?_
    refine el_AA rr_ fun hn0_ dv it => ?_
    obtain ⟨en, da⟩ := hn0_
    dsimp only
    refine wpAny_bind (letOwned it ?_)
    refine wpAny_bind (asgT_sound hh fe' es k en dv e3 fun s₃ hσ as => ?_)
    subst hσ
    have hx3 : Kx (cls.plus (only I)) (ι ++ ext) s₂.heap s₃.heap := as.kx fe'
    have it3 : ItAt (cls.plus (only I)) s₃.heap (ι ++ ext) xs tk I (i + 1) := by
      have := it.keep (ext := []) (h' := s₃.heap) (fun o q => as.keep _ o hOI q) hx3 (fun _ q => (List.not_mem_nil q).elim)
      rwa [List.append_nil] at this
    have da3 : DAt (cls.plus (only I)) D q.1 s₃.heap (ι ++ ext) := da.kx hx3 fun o z => as.keep _ o hOD z
    have st3 : StepO (fun a => OwnC scope env D a ∨ a = I) ι ext s.heap s₃.heap := ⟨fun b ob hb hn z => as.keep b ob (fun z => hn (.inl (.inl z))) (st.keep b ob hb hn z), st.fresh⟩
    refine wpAny_bind (wpAny_mono (ht ρa _ ok σc s₃ (ι ++ ext) _ as.ok as.env e5) (fun c s₄ a4 => ?_) fun _ _ z => z)
    refine a4.elim fun g4 o4 ext4 st4 k4 hc => ?_
    subst hc
    have en4 : EnvOK (cls.plus (only I)) s₄.heap ((ι ++ ext) ++ ext4) scope env ρa := as.env.step fe' as.ok st4
    have it4 : ItAt (cls.plus (only I)) s₄.heap ((ι ++ ext) ++ ext4) xs tk I (i + 1) := it3.keep (fun o q => st4.keep _ o (as.ok.exs I hIex).2.1 q) (Kp.kx st4.keep) st4.fresh
    have da4 : DAt (cls.plus (only I)) D q.1 s₄.heap ((ι ++ ext) ++ ext4) := da3.step (own := fun _ => False) st4.o (fun _ z => z.elim) (as.ok.exs D hDex).2.1 (fun z => z)
    have st4' : StepO (fun a => OwnC scope env D a ∨ a = I) (ι ++ ext) ext4 s₃.heap s₄.heap := st4.o
    have tot4 : ∀ {σz : Sg} {s₅ : Shared} {R' : Heap → List Addr → Prop}, AfterO (fun a => OwnC scope env D a ∨ a = I) (cls.plus (only I)) h₀ ((ι ++ ext) ++ ext4) s₄ σz R' s₅ → AfterO (fun a => OwnC scope env D a ∨ a = I) (cls.plus (only I)) h₀ ι s σz R' s₅ := fun {σz s₅ R'} r' =>
      AfterO.trans hown2 (as.gens.trans g) (as.os.trans o) st3 (AfterO.trans hown2 g4 o4 st4' r')
    cases c with
    | true =>
      rw [if_pos rfl] at e6 ⊢
      refine hp (q.1, ρa) σc r σa s₄ _ _ _ _ k4 en4 da4 e6 fun s₅ a5 => ?_
      refine a5.elim fun g5 o5 ext5 st5 k5 rr_ => ?_
      obtain ⟨en5, da5⟩ := rr_
      refine wpAny_pure ⟨rfl, xs.length - (i + 1), Nat.sub_succ_lt_self _ _ hi, i + 1, r, σa, rfl, hi, ⟨?_, htr⟩, e8⟩
      refine tot4 ⟨g5, o5, ext5, ⟨fun b ob hb hn z => st5.keep b ob hb (fun z => hn (.inl z)) z, st5.fresh⟩, k5, ⟨en5, da5⟩, ?_⟩
      exact it4.keep (fun o q => st5.keep _ o (k4.exs I hIex).2.1 hCI q) (st5.kx hown) st5.fresh
    | false =>
      rw [if_neg Bool.false_ne_true] at e6 ⊢
      cases pure_iff.mp e6
      refine wpAny_pure ⟨rfl, xs.length - (i + 1), Nat.sub_succ_lt_self _ _ hi, i + 1, _, _, rfl, hi, ⟨?_, htr⟩, e8⟩
      exact tot4 ⟨rfl, rfl, [], ⟨fun _ _ _ _ z => z, fun _ z => (List.not_mem_nil z).elim⟩, by rw [List.append_nil]; exact k4, by rw [List.append_nil]; exact ⟨⟨en4, da4⟩, it4⟩⟩
  · have hx : xs[i]? = none := List.getElem?_eq_none (by exact lin [_,_] (.h 1 5 (.v 0) (.v 1) (.g 1 0 (.v 1) (.v 0))) rfl hi)
    rw [List.drop_eq_nil_of_le (by exact lin [_,_] (.h 1 5 (.v 0) (.v 1) (.g 1 0 (.v 1) (.v 0))) rfl hi)] at he'
    rw [qcn] at he'
    cases pure_iff.mp he'
    refine W'.fin hh hI hIo (RR0 := fun h ι' => EnvOK cls h ι' scope env p'.2 ∧ DAt cls D p'.1 h ι') (fun h h' ι' e eb => ⟨e.1.ext eb hIL hIC, ?_⟩) hx fun s₂ a => ?_
    · refine el_EEA e.2 fun us c eD ds => ?_
      exact in_EEA us c (eb D _ hID eD) (Dens.minus _ _ (Dens.kx (fun b o (hb' : Out (cls.plus (only I)) ι' b) q => eb b o (fun z => hb'.2 (Or.inr z)) q) _ _ ds))
    · exact wpAny_pure (hR _ a)
end
end Mine
end
section
open PySem PySem.W PyProof.Rows PySem.Spec
set_option maxRecDepth 100000
namespace Mine
theorem nodupB_mem {α : Type} : ∀ {l : List (Str × α)} {x : Str} {k : α}, nodupB (l.map (·.1)) = true → (x, k) ∈ l → l.lookup x = some k
  | (y, j) :: r, x, k, h, hm => by
    simp only [List.map_cons, qnd, Bool.and_eq_true, Bool.not_eq_true'] at h
    rw [List.lookup_cons]
    rcases List.mem_cons.mp hm with e | hm
    · cases e; simp
    · have hne : (x == y) = false := by
        have : y ∉ r.map (·.1) := by simpa using h.1
        have : y ≠ x := fun q => this (q ▸ List.mem_map_of_mem (f := (·.1)) hm)
        simpa using fun q => this q.symm
      rw [hne]
      exact nodupB_mem h.2 hm
noncomputable def clos (env : Env) : List (Str × NameKind) → List (Str × Addr) → List (Str × Addr)
  | [], cs => cs
  | (n, k) :: r, cs => clos env r (if k == .free then (n, (env.cells.lookup n).getD 0) :: cs else cs)
theorem clos_cons {env : Env} {n : Str} {k : NameKind} {r : List (Str × NameKind)} {cs : List (Str × Addr)} : clos env ((n, k) :: r) cs = clos env r (if k == .free then (n, (env.cells.lookup n).getD 0) :: cs else cs) := rfl
theorem closureFor_eq {scope : Scope} {env : Env} (h : ∀ x k, (x, k) ∈ scope.names → k = .free → ∃ c, env.cells.lookup x = some c) : closureFor scope env = pure (clos env scope.names []) := by
  unfold closureFor
  have : ∀ (names : List (Str × NameKind)) (cs : List (Str × Addr)), (∀ x k, (x, k) ∈ names → k = .free → ∃ c, env.cells.lookup x = some c) →
      (forIn names cs fun (x : Str × NameKind) (r : List (Str × Addr)) => if x.2 == .free then (do let c ← cellOf env x.1; pure (ForInStep.yield ((x.1, c) :: r))) else pure (ForInStep.yield r) : Sem _) = pure (clos env names cs) := by
    intro names
    induction names with
    | nil => intro cs _; rfl
    | cons p r ih =>
      intro cs hn
      obtain ⟨n, k⟩ := p
      rw [List.forIn_cons]
      rw [clos_cons]
      by_cases hk : k = .free
      · subst hk
        obtain ⟨c, hc⟩ := hn n .free (by simp) rfl
        have e : cellOf env n = pure c := by unfold cellOf; rw [hc]
        simp only [beq_self_eq_true, if_true, e, hc, Option.getD_some]
        exact ih ((n, c) :: cs) fun x k hm => hn x k (List.mem_cons_of_mem _ hm)
      · have : (k == NameKind.free) = false := by simpa using hk
        simp only [this, Bool.false_eq_true, if_false]
        exact ih cs fun x k hm => hn x k (List.mem_cons_of_mem _ hm)
  have q := this scope.names [] h
  show (forIn scope.names [] (fun (x : Str × NameKind) (r : List (Str × Addr)) => if x.2 == .free then (do let c ← cellOf env x.1; pure (ForInStep.yield ((x.1, c) :: r))) else pure (ForInStep.yield r)) >>= fun r => pure r : Sem _) = _
  rw [q]
  rfl
theorem clos_spec {env : Env} : ∀ (names : List (Str × NameKind)) (cs : List (Str × Addr)), (∀ x k, (x, k) ∈ names → k = .free → ∃ c, env.cells.lookup x = some c) → (∀ x c, cs.lookup x = some c → env.cells.lookup x = some c) →
    (∀ x c, (clos env names cs).lookup x = some c → env.cells.lookup x = some c) ∧ (∀ x, ((x, NameKind.free) ∈ names ∨ ∃ c, cs.lookup x = some c) → ∃ c, (clos env names cs).lookup x = some c)
  | [], cs, _, h => ⟨h, fun x q => q.elim (fun z => (List.not_mem_nil z).elim) id⟩
  | (n, k) :: r, cs, hn, h => by
    rw [clos_cons]
    have hn' : ∀ x k, (x, k) ∈ r → k = .free → ∃ c, env.cells.lookup x = some c := fun x k hm => hn x k (List.mem_cons_of_mem _ hm)
    by_cases hk : k = .free
    · subst hk
      obtain ⟨c, hc⟩ := hn n .free (by simp) rfl
      simp only [beq_self_eq_true, if_true, hc, Option.getD_some]
      obtain ⟨h1, h2⟩ := clos_spec r ((n, c) :: cs) hn' (fun x c' q => by
        rw [List.lookup_cons] at q
        split at q
        · rename_i e; cases q; rw [beq_iff_eq.mp e]; exact hc
        · exact h x c' q)
      refine ⟨h1, fun x q => h2 x ?_⟩
      by_cases e : x = n
      · subst e; exact .inr ⟨c, by simp⟩
      · rcases q with q | ⟨c', q⟩
        · rcases List.mem_cons.mp q with z | z
          · cases z; exact absurd rfl e
          · exact .inl z
        · refine .inr ⟨c', ?_⟩
          have : (x == n) = false := by simpa using e
          rw [List.lookup_cons, this]; exact q
    · have : (k == NameKind.free) = false := by simpa using hk
      simp only [this, Bool.false_eq_true, if_false]
      obtain ⟨h1, h2⟩ := clos_spec r cs hn' h
      refine ⟨h1, fun x q => h2 x ?_⟩
      rcases q with q | q
      · rcases List.mem_cons.mp q with z | z
        · cases z; exact absurd rfl hk
        · exact .inl z
      · exact .inr q
theorem cells_spec (base : Nat) : ∀ (names : List (Str × NameKind)) (h : Heap) (acc : List (Str × Addr)),
    (∀ x c, acc.lookup x = some c → @LT.lt Nat instLTNat c h.objs.size) → (∀ x y c, acc.lookup x = some c → acc.lookup y = some c → x = y) → (∀ x c, acc.lookup x = some c → @LE.le Nat instLENat base c → h.IsCell c none) → base ≤ h.objs.size →
    (∀ x c, (cellsFrom h.objs.size names acc).lookup x = some c → @LT.lt Nat instLTNat c (pushCells h names).objs.size) ∧
    (∀ x y c, (cellsFrom h.objs.size names acc).lookup x = some c → (cellsFrom h.objs.size names acc).lookup y = some c → x = y) ∧
    (∀ x c, (cellsFrom h.objs.size names acc).lookup x = some c → @LE.le Nat instLENat base c → (pushCells h names).IsCell c none) ∧
    (∀ x, (∃ c, acc.lookup x = some c ∧ @LE.le Nat instLENat base c) ∨ (x, NameKind.cell) ∈ names → ∃ c, (cellsFrom h.objs.size names acc).lookup x = some c ∧ @LE.le Nat instLENat base c) ∧
    (∀ x, (x, NameKind.cell) ∉ names → (cellsFrom h.objs.size names acc).lookup x = acc.lookup x)
  | [], h, acc, a1, a2, a3, _ => ⟨a1, a2, a3, fun x q => q.elim id (fun z => (List.not_mem_nil z).elim), fun x _ => rfl⟩
  | (n, k) :: r, h, acc, a1, a2, a3, hb => by
    unfold cellsFrom pushCells
    by_cases hk : k = .cell
    · refine eq_l hk ?_
      simp only [beq_self_eq_true, if_true]
      have hsz : (h.push { cls := .type "cell", data := .cell none }).objs.size = h.objs.size + 1 := Heap.size_push ..
      have look : ∀ x c, List.lookup x ((n, h.objs.size) :: acc) = some c → (x = n ∧ c = h.objs.size) ∨ acc.lookup x = some c := fun x c q => by
        rw [List.lookup_cons] at q
        split at q
        · rename_i e; cases q; exact .inl ⟨beq_iff_eq.mp e, rfl⟩
        · exact .inr q
      have := cells_spec base r (h.push { cls := .type "cell", data := .cell none }) ((n, h.objs.size) :: acc) (fun x c q => by
          rw [hsz]
          rcases look x c q with ⟨_, e⟩ | q
          · subst e; exact Nat.lt_succ_self _
          · exact Nat.lt_succ_of_lt (a1 x c q)) (fun x y c q1 q2 => by
          rcases look x c q1 with ⟨e1, f1⟩ | q1 <;> rcases look y c q2 with ⟨e2, f2⟩ | q2
          · rw [e1, e2]
          · have := a1 y c q2; rw [f1] at this; exact absurd this (Nat.lt_irrefl _)
          · have := a1 x c q1; rw [f2] at this; exact absurd this (Nat.lt_irrefl _)
          · exact a2 x y c q1 q2) (fun x c q hc => by
          rcases look x c q with ⟨_, e⟩ | q
          · subst e; exact ⟨_, Heap.get?_push_size _ rfl, rfl⟩
          · exact (a3 x c q hc).keeps fun b o e => Heap.get?_push_of_some _ e) (by rw [hsz]; exact lin [_,_] (.h 1 0 (.v 0) (.v 1) (.g 1 0 (.v 0) (.a (.v 1) (.c 1)))) rfl hb)
      rw [hsz] at this
      refine el_AAAA this fun b1 b2 b3 b4 b5 => ?_
      refine in_AAAA b1 b2 b3 (fun x q => b4 x ?_) (fun x q => ?_)
      · by_cases e : x = n
        · subst e; exact .inl ⟨h.objs.size, by simp, hb⟩
        · rcases q with ⟨c, q, hc⟩ | q
          · refine .inl ⟨c, ?_, hc⟩
            have : (x == n) = false := by simpa using e
            rw [List.lookup_cons, this]; exact q
          · rcases List.mem_cons.mp q with z | z
            · cases z; exact absurd rfl e
            · exact .inr z
      · have e : x ≠ n := fun z => q (by rw [z]; simp)
        have : (x == n) = false := by simpa using e
        rw [b5 x fun z => q (List.mem_cons_of_mem _ z), List.lookup_cons, this]
    · have : (k == NameKind.cell) = false := by simpa using hk
      simp only [this, Bool.false_eq_true, if_false]
      refine el_AAAA (cells_spec base r h acc a1 a2 a3 hb) fun b1 b2 b3 b4 b5 => ?_
      refine in_AAAA b1 b2 b3 (fun x q => b4 x ?_) (fun x q => b5 x fun z => q (List.mem_cons_of_mem _ z))
      rcases q with q | q
      · exact .inl q
      · rcases List.mem_cons.mp q with z | z
        · cases z; exact absurd rfl hk
        · exact .inr z
theorem relabel_lookup {scope : Scope} {env : Env} : ∀ {names : List (Str × NameKind)} {x : Str},
    (names.lookup x ≠ some .free → (names.map fun (n, k) => if (k == NameKind.free && env.scope.kind == .function && env.kindOf n == some .cell) then (n, NameKind.cell) else (n, k)).lookup x = names.lookup x) ∧
    (names.lookup x = some .free → (names.map fun (n, k) => if (k == NameKind.free && env.scope.kind == .function && env.kindOf n == some .cell) then (n, NameKind.cell) else (n, k)).lookup x = some .free ∨
      (names.map fun (n, k) => if (k == NameKind.free && env.scope.kind == .function && env.kindOf n == some .cell) then (n, NameKind.cell) else (n, k)).lookup x = some .cell)
  | [], x => ⟨fun _ => rfl, fun h => by simp at h⟩
  | (n, k) :: r, x => by
    have ih := @relabel_lookup scope env r x
    simp only [List.map_cons]
    by_cases hx : x = n
    · refine eq_l hx ?_
      constructor
      · intro h
        have hk : k ≠ .free := fun q => h (by rw [q]; simp)
        have : (k == NameKind.free) = false := by simpa using hk
        simp [this]
      · intro h
        have hk : k = .free := by simpa using h
        refine eq_l hk ?_
        split
        · exact .inr (by simp)
        · exact .inl (by simp)
    · have hb : (x == n) = false := by simpa using hx
      have : ∀ (j : NameKind), (((n, j) : Str × NameKind) :: (r.map fun (n, k) => if (k == NameKind.free && env.scope.kind == .function && env.kindOf n == some .cell) then (n, NameKind.cell) else (n, k))).lookup x = (r.map fun (n, k) => if (k == NameKind.free && env.scope.kind == .function && env.kindOf n == some .cell) then (n, NameKind.cell) else (n, k)).lookup x := fun j => by rw [List.lookup_cons, hb]
      have e2 : ((n, k) :: r).lookup x = r.lookup x := by rw [List.lookup_cons, hb]
      rw [e2]
      split
      · rw [this]; exact ih
      · rw [this]; exact ih
end Mine
end
section
open PySem PySem.W PyProof.Rows PySem.Spec
set_option maxRecDepth 100000
namespace Mine
theorem compEnv_new {M : Model} {A : Around} {E : Value → Shared → Prop} {s : Shared} {scope : Scope} {env : Env} {cl : List (Str × Addr)} {Q : Env → Shared → Prop}
    (h : Q { scope := scope, locals := s.heap.objs.size, globals := env.globals, cells := cellsFrom (s.heap.objs.size + 1) scope.names cl, qual := env.qual, func := none, code := env.code, frame := env.frame, builtins := env.builtins }
      { s with heap := pushCells (s.heap.push { cls := .type "dict", data := .dict #[] }) scope.names }) : wpAny M A (newFunctionEnv scope env.globals cl [] env.qual none .none (some env)) Q E s := by
  simp only [newFunctionEnv, Option.isSome_some, if_true]
  refine wpAny_bind (wpAny_alloc ?_)
  refine wpAny_bind (wpAny_layCells _ (fun name kind cells => by cases hkc : kind == NameKind.cell <;> simp [hkc]) _ _ _ _ ?_)
  rw [show ({ s with heap := s.heap.push { cls := .type "dict", data := .dict #[] } } : Shared).heap.objs.size = s.heap.objs.size + 1 from Heap.size_push ..]
  rw [List.forIn_nil]
  exact wpAny_bind (wpAny_pure (wpAny_pure h))
noncomputable def cpl (scope : Scope) (cenv : Env) (D : Addr) : Addr → Prop := fun b => OwnAt scope cenv b ∨ b = D
section
variable {cls : Cx} {h h₀ : Heap} {ι : List Addr} {σ : Sg} {sc scope : Scope} {env : Env} {ρ : Rho}
theorem freesOk_spec (hf : freesOk sc scope = true) {x : Str} (hm : (x, NameKind.free) ∈ scope.names) : sc.names.lookup x = some .cell ∨ sc.names.lookup x = some .free := by
  unfold freesOk at hf
  have := List.all_eq_true.mp hf _ hm
  simpa using this
structure CompFrame (cls : Cx) (h₀ h h' : Heap) (ι : List Addr) (σ : Sg) (scope : Scope) (cenv : Env) (ρ : Rho) (D : Addr) : Prop where
  st : EnvSt scope cenv
  fe : FrameEx (cls.plus (cpl scope cenv D)) cenv
  ok : Ok (cls.plus (cpl scope cenv D)) h₀ h' ι σ
  env : EnvOK (cls.plus (cpl scope cenv D)) h' ι scope cenv (compRho scope ρ)
  d : DAt (cls.plus (cpl scope cenv D)) D [] h' ι
  fresh : ∀ b, cpl scope cenv D b → h.get? b = none
  dl : D ≠ cenv.locals
  dc : ∀ x, cenv.cells.lookup x ≠ some D
  keep : ∀ b o, h.get? b = some o → h'.get? b = some o
  ns : ∃ m, h'.Ns cenv.locals m
theorem comp_frame (es : EnvSt sc env) (fe : FrameEx cls env) (e : EnvOK cls h ι sc env ρ) (k : Ok cls h₀ h ι σ) (hs : scopeOk scope = true) (hf : freesOk sc scope = true) :
    CompFrame cls h₀ h (pushCells ((h.push { cls := .type "list", data := .seq ([] : List Value).toArray }).push { cls := .type "dict", data := .dict #[] }) scope.names) ι σ scope
      (compEnvC scope (cellsFrom (h.objs.size + 1 + 1) scope.names (clos env scope.names [])) (h.objs.size + 1) env) ρ h.objs.size := by
  unfold scopeOk at hs
  simp only [Bool.and_eq_true, beq_iff_eq] at hs
  obtain ⟨hkind, hnd⟩ := hs
  have hfree : ∀ x k, (x, k) ∈ scope.names → k = .free → ∃ c, env.cells.lookup x = some c := fun x k hm hk => by
    subst hk
    rcases freesOk_spec hf hm with q | q
    · exact es.own x q
    · exact es.fre x q
  obtain ⟨c1, c2⟩ := clos_spec scope.names [] hfree (fun x c q => by simp at q)
  generalize hcl : clos env scope.names [] = cl at c1 c2 ⊢
  have hcel : ∀ x c, cl.lookup x = some c → ∃ o, h.get? c = some o := fun x c q => by
    refine el_EA (e.ce x c (c1 x c q)) fun o hn1_ _ => ?_
    obtain ⟨ob, ho, _⟩ := hn1_
    exact ⟨ob, ho⟩
  generalize hH2 : (h.push { cls := .type "list", data := .seq ([] : List Value).toArray }).push { cls := .type "dict", data := .dict #[] } = H2
  have s1 : (h.push { cls := .type "list", data := .seq ([] : List Value).toArray }).objs.size = h.objs.size + 1 := Heap.size_push ..
  have s2 : H2.objs.size = h.objs.size + 1 + 1 := by rw [← hH2, Heap.size_push, s1]
  have k2 : ∀ b o, h.get? b = some o → H2.get? b = some o := fun b o q => by rw [← hH2]; exact Heap.get?_push_of_some _ (Heap.get?_push_of_some _ q)
  have gD : H2.get? h.objs.size = some { cls := .type "list", data := .seq ([] : List Value).toArray } := by rw [← hH2]; exact Heap.get?_push_of_some _ (Heap.get?_push_size _ rfl)
  have gL : H2.Ns (h.objs.size + 1) (fun _ => none) := by
    rw [← hH2, ← s1]
    exact Heap.Ns.new _ (.type "dict")
  obtain ⟨b1, b2, b3, b4, b5⟩ := cells_spec H2.objs.size scope.names H2 cl (fun x c q => by
      obtain ⟨o, ho⟩ := hcel x c q
      have := Heap.lt_size ho
      rw [s2]
      exact Nat.lt_succ_of_lt (Nat.lt_succ_of_lt this)) (fun x y c q1 q2 => es.apart x y c (c1 x c q1) (c1 y c q2)) (fun x c q hc => by
      obtain ⟨o, ho⟩ := hcel x c q
      have := Heap.lt_size ho
      rw [s2] at hc
      exact absurd (Nat.lt_of_lt_of_le (Nat.lt_succ_of_lt (Nat.lt_succ_of_lt this)) hc) (Nat.lt_irrefl _)) (Nat.le_refl _)
  rw [s2] at b1 b2 b3 b4 b5
  generalize hH3 : pushCells H2 scope.names = H3 at b1 b3 ⊢
  have k3 : ∀ b o, H2.get? b = some o → H3.get? b = some o := fun b o q => by rw [← hH3]; exact pushCells_keeps _ _ b o q
  have keep : ∀ b o, h.get? b = some o → H3.get? b = some o := fun b o q => k3 b o (k2 b o q)
  generalize hcs : cellsFrom (h.objs.size + 1 + 1) scope.names cl = cs at b1 b2 b3 b4 b5 ⊢
  have cellNo : ∀ x, scope.names.lookup x ≠ some .cell → (x, NameKind.cell) ∉ scope.names := fun x q hm => q (nodupB_mem hnd hm)
  have ownc : ∀ x, scope.names.lookup x = some .cell → ∃ c, cs.lookup x = some c ∧ @LE.le Nat instLENat (h.objs.size + 1 + 1) c := fun x q => b4 x (.inr (mem_of_lookup q))
  have old : ∀ x c, scope.names.lookup x ≠ some .cell → cs.lookup x = some c → env.cells.lookup x = some c := fun x c q hc => c1 x c (by rw [← b5 x (cellNo x q)]; exact hc)
  have place : ∀ b, cpl scope (compEnvC scope cs (h.objs.size + 1) env) h.objs.size b → @LE.le Nat instLENat h.objs.size b ∧ ∃ o, H3.get? b = some o := fun b hb => by
    rcases hb with (hb | ⟨x, hx, hc⟩) | hb
    · refine eq_l hb ?_
      refine el_EEEA gL fun o _ _ q _ => ?_
      exact ⟨Nat.le_succ _, o, k3 _ _ q⟩
    · refine el_EA (ownc x hx) fun c q hle => ?_
      have hc : cs.lookup x = some b := hc
      rw [q] at hc; cases hc
      refine el_EA (b3 x _ q hle) fun o ho _ => ?_
      exact ⟨Nat.le_trans (Nat.le_succ_of_le (Nat.le_succ _)) hle, o, ho⟩
    · refine eq_l hb ?_
      exact ⟨Nat.le_refl _, _, k3 _ _ gD⟩
  have fresh : ∀ b, cpl scope (compEnvC scope cs (h.objs.size + 1) env) h.objs.size b → h.get? b = none := fun b hb => Heap.get?_none_of_le (place b hb).1
  exact {
    st := {
      fn := hkind
      gl := es.gl
      bl := es.bl
      km := fun x q => (relabel_lookup (scope := scope) (env := env)).1 q
      kf := fun x q => (relabel_lookup (scope := scope) (env := env)).2 q
      apart := fun x y c q1 q2 => b2 x y c q1 q2
      lc := fun x q => by
        have q : cs.lookup x = some (h.objs.size + 1) := q
        by_cases hx : scope.names.lookup x = some .cell
        · refine el_EA (ownc x hx) fun c q' hle => ?_
          rw [q] at q'; cases q'
          exact absurd hle (Nat.not_succ_le_self _)
        · refine el_EA (e.ce x _ (old x _ hx q)) fun o hn1_ _ => ?_
          obtain ⟨ob, hob, _⟩ := hn1_
          exact absurd (Heap.lt_size hob) (Nat.not_lt.mpr (Nat.le_succ _))
      own := fun x q => let ⟨c, q, _⟩ := ownc x q; ⟨c, q⟩
      fre := fun x q => by
        obtain ⟨c, hc⟩ := c2 x (.inl (mem_of_lookup q))
        exact ⟨c, by show cs.lookup x = some c; rw [b5 x (cellNo x (by rw [q]; simp))]; exact hc⟩ }
    fe := ⟨.inr (.inl (.inl rfl)), fun x c q => by
      by_cases hx : scope.names.lookup x = some .cell
      · exact .inr (.inl (.inr ⟨x, hx, q⟩))
      · exact .inl (fe.c x c (old x c hx q))⟩
    ok := k.plus fresh keep fun b hb => (place b hb).2
    env := {
      ns := ⟨_, gL.at' fun o q => k3 _ o q, fun x v h1 h2 => by
        unfold compRho at h2
        rw [h1] at h2
        simp at h2⟩
      ce := fun x c hc => by
        by_cases hx : scope.names.lookup x = some .cell
        · refine el_EA (ownc x hx) fun c' q' hle => ?_
          have hc : cs.lookup x = some c := hc
          rw [q'] at hc; cases hc
          refine ⟨none, b3 x _ q' hle, fun v _ h2 => ?_⟩
          unfold compRho at h2
          rw [hx] at h2
          simp at h2
        · refine el_EA (e.ce x c (old x c hx hc)) fun o hn1_ hd => ?_
          obtain ⟨ob, ho, hod⟩ := hn1_
          refine ⟨o, ⟨ob, keep _ _ ho, hod⟩, fun v _ h2 => ?_⟩
          unfold compRho at h2
          split at h2
          · rename_i hfr
            refine el_EA (hd v (freesOk_spec hf (mem_of_lookup hfr)) h2) fun w h3 h4 => ?_
            exact ⟨w, h3, Den.kx (fun b o _ q => keep b o q) _ _ (Den.plus fresh _ _ h4)⟩
          · cases h2
      dom := fun x v h2 => by
        unfold compRho at h2
        split at h2
        · rename_i hfr
          refine ⟨(e.dom x v h2).1, .inr ⟨.inr hfr, ?_⟩⟩
          obtain ⟨c, hc⟩ := c2 x (.inl (mem_of_lookup hfr))
          exact ⟨c, by show cs.lookup x = some c; rw [b5 x (cellNo x (by rw [hfr]; simp))]; exact hc⟩
        · cases h2 }
    d := ⟨[], 0, k3 _ _ gD, rfl⟩
    fresh := fresh
    dl := Nat.ne_of_lt (Nat.lt_succ_self _)
    dc := fun x q => by
      have q : cs.lookup x = some h.objs.size := q
      by_cases hx : scope.names.lookup x = some .cell
      · refine el_EA (ownc x hx) fun c q' hle => ?_
        rw [q] at q'; cases q'
        exact absurd hle (Nat.not_le.mpr (Nat.lt_succ_of_lt (Nat.lt_succ_self _)))
      · refine el_EA (e.ce x _ (old x _ hx q)) fun o hn1_ _ => ?_
        obtain ⟨ob, hob, _⟩ := hn1_
        exact absurd (Heap.lt_size hob) (Nat.lt_irrefl _)
    keep := keep
    ns := ⟨_, gL.at' fun o q => k3 _ o q⟩ }
end
end Mine
end
section
open PySem PySem.W PyProof.Rows PySem.Spec
set_option maxRecDepth 100000
namespace Mine
section
variable {cls cls' : Cx} {h h' h₀ : Heap} {ι : List Addr} {σ : Sg} {D : Addr}
theorem Out.less (hx : ∀ a, cls'.ex a → cls.ex a) {a : Addr} (o : Out cls ι a) : Out cls' ι a := ⟨o.1, fun q => o.2 (hx a q)⟩
theorem Den.less (hc : cls'.c = cls.c) (hx : ∀ a, cls'.ex a → cls.ex a) (x : V) (v : Value) (d : Den cls h ι x v) : Den cls' h ι x v := Den.gen hc (fun _ _ hn q => ⟨hn.less hx, q⟩) (fun _ _ q => q) x v d
theorem Dens.less (hc : cls'.c = cls.c) (hx : ∀ a, cls'.ex a → cls.ex a) (xs : List V) (vs : List Value) (d : Dens cls h ι xs vs) : Dens cls' h ι xs vs := Dens.gen hc (fun _ _ hn q => ⟨hn.less hx, q⟩) (fun _ _ q => q) xs vs d
theorem Out.adopt (hx : ∀ a, cls'.ex a → cls.ex a) (hD : cls.ex D) {a : Addr} (o : Out cls ι a) : Out cls' (ι ++ [D]) a := ⟨fun q => by
    rcases List.mem_append.mp q with q | q
    · exact o.1 q
    · exact o.2 (by rw [List.mem_singleton.mp q]; exact hD), fun q => o.2 (hx a q)⟩
theorem Den.adopt (hc : cls'.c = cls.c) (hx : ∀ a, cls'.ex a → cls.ex a) (hD : cls.ex D) (x : V) (v : Value) (d : Den cls h ι x v) : Den cls' h (ι ++ [D]) x v := Den.gen hc (fun _ _ hn q => ⟨hn.adopt hx hD, q⟩) (fun _ _ => getI_ext) x v d
theorem Dens.adopt (hc : cls'.c = cls.c) (hx : ∀ a, cls'.ex a → cls.ex a) (hD : cls.ex D) (xs : List V) (vs : List Value) (d : Dens cls h ι xs vs) : Dens cls' h (ι ++ [D]) xs vs := Dens.gen hc (fun _ _ hn q => ⟨hn.adopt hx hD, q⟩) (fun _ _ => getI_ext) xs vs d
theorem ObjAt.adopt (hc : cls'.c = cls.c) (hx : ∀ a, cls'.ex a → cls.ex a) (hD : cls.ex D) {a : Addr} {o : MObj} (q : ObjAt cls h ι a o) : ObjAt cls' h (ι ++ [D]) a o := by
  cases o with
  | list xs => obtain ⟨vs, e, ds⟩ := q; exact ⟨vs, e, Dens.adopt hc hx hD xs vs ds⟩
  | fields fs =>
    refine el_AEA q fun dl m hn d => ?_
    refine in_AEA dl m hn (fun n => ?_)
    have := d n
    split at this
    · exact this
    · rename_i x e; obtain ⟨v, a, b⟩ := this; exact ⟨v, a, Den.adopt hc hx hD x v b⟩
  | dict n => exact q
theorem ObjAt.less (hc : cls'.c = cls.c) (hx : ∀ a, cls'.ex a → cls.ex a) {a : Addr} {o : MObj} (q : ObjAt cls h ι a o) : ObjAt cls' h ι a o := by
  cases o with
  | list xs => obtain ⟨vs, e, ds⟩ := q; exact ⟨vs, e, Dens.less hc hx xs vs ds⟩
  | fields fs =>
    refine el_AEA q fun dl m hn d => ?_
    refine in_AEA dl m hn (fun n => ?_)
    have := d n
    split at this
    · exact this
    · rename_i x e; obtain ⟨v, a, b⟩ := this; exact ⟨v, a, Den.less hc hx x v b⟩
  | dict n => exact q
theorem Ok.less (hc : cls'.c = cls.c) (hx : ∀ a, cls'.ex a → cls.ex a) (k : Ok cls h₀ h ι σ) : Ok cls' h₀ h ι σ where
  stay := k.stay
  new := k.new
  nodup := k.nodup
  len := k.len
  exs := fun a ha => k.exs a (hx a ha)
  obj := fun l a o e1 e2 => (k.obj l a o e1 e2).less hc hx
theorem Ok.adopt (hc : cls'.c = cls.c) (hx : ∀ a, cls'.ex a → cls.ex a) (hD : cls.ex D) (hD' : ¬ cls'.ex D) (k : Ok cls h₀ h ι σ) {o : MObj} (ho : ObjAt cls' h (ι ++ [D]) D o) : Ok cls' h₀ h (ι ++ [D]) (σ ++ [o]) where
  stay := k.stay
  new := fun b hb => by
    rcases List.mem_append.mp hb with q | q
    · exact k.new b q
    · rw [List.mem_singleton.mp q]; exact (k.exs D hD).2.2
  nodup := by
    refine List.nodup_append.mpr ⟨k.nodup, by simp, fun x hx y hy => ?_⟩
    rw [List.mem_singleton.mp hy]
    intro q
    exact (k.exs D hD).2.1 (q ▸ hx)
  len := by rw [List.length_append, List.length_append, k.len]; rfl
  exs := fun a ha => ⟨(k.exs a (hx a ha)).1, fun q => by
    rcases List.mem_append.mp q with q | q
    · exact (k.exs a (hx a ha)).2.1 q
    · rw [List.mem_singleton.mp q] at ha; exact hD' ha, (k.exs a (hx a ha)).2.2⟩
  obj := fun l b o' e1 e2 => by
    by_cases hl : l < ι.length
    · rw [List.getElem?_append_left hl] at e1
      rw [List.getElem?_append_left (by rw [← k.len]; exact hl)] at e2
      exact (k.obj l b o' e1 e2).adopt hc hx hD
    · have hl' : ι.length ≤ l := Nat.not_lt.mp hl
      rw [List.getElem?_append_right hl'] at e1
      rw [List.getElem?_append_right (by rw [← k.len]; exact hl')] at e2
      have e0 : l - ι.length = 0 := by have := (List.getElem?_eq_some_iff.mp e1).1; simp at this; exact Nat.le_antisymm (lin [_] (.h 1 2 (.v 0) (.c 0) (.g 1 0 (.v 0) (.c 0))) rfl this) (lin [_] (.g 1 0 (.c 0) (.v 0)) rfl)
      have e0' : l - σ.length = 0 := by rw [← k.len]; exact e0
      rw [e0] at e1; rw [e0'] at e2
      simp at e1 e2
      subst e1; subst e2; exact ho
end
section
variable {w : World} {A : Around} {E : Value → Shared → Prop} {own : Addr → Prop} {s s₁ s₅ : Shared} {cls : Cx} {h₀ h' : Heap} {ι : List Addr} {σ σ' : Sg} {R R' : Heap → List Addr → Prop} {C D : Addr} {scope : Scope} {cenv : Env} {r : List V × Rho} {y : V} {tr : Bool} {ρ : Rho}
theorem leaveC (a : AfterO own (cls.plus (only C)) h₀ ι s σ R s₅) (hs : Heap.SameBut C s₅.heap h') (hC : s.heap.get? C = none) (hCo : ¬ cls.ex C) (hR : ∀ h ι', R h ι' → Kx (cls.plus (only C)) ι' h h' → Heap.SameBut C h h' → R' h' ι') :
    AfterO own cls h₀ ι s σ R' { s₅ with heap := h' } := by
  refine a.elim fun g o ext st k rr => ?_
  have hk : Kx (cls.plus (only C)) (ι ++ ext) s₅.heap h' := kx_sameBut (.inr rfl) hs
  refine ⟨g, o, ext, ⟨fun b ob hb hn e => (hs.2 b fun q => by rw [q, hC] at e; cases e).trans (st.keep b ob hb hn e), st.fresh⟩, k.leave hk (fun b hb ob e => (hs.2 b fun q => (k.exs C (.inr rfl)).2.1 (q ▸ hb)).trans e) fun b hb => ?_, hR _ _ rr hk hs⟩
  obtain ⟨⟨ob, e⟩, _⟩ := k.exs b (.inl hb)
  exact ⟨ob, (hs.2 b fun q => hCo (q ▸ hb)).trans e⟩
theorem comp_end {cls₀ : Cx} (hc : cls₀.c = cls.c) (hx : ∀ a, cls₀.ex a → cls.ex a ∨ cpl scope cenv D a) (hD' : ¬ cls₀.ex D) (hf : ∀ b, cpl scope cenv D b → s.heap.get? b = none)
    (a : AfterO (OwnC scope cenv D) (cls.plus (cpl scope cenv D)) h₀ ι s σ (fun h ι' => EnvOK (cls.plus (cpl scope cenv D)) h ι' scope cenv r.2 ∧ DAt (cls.plus (cpl scope cenv D)) D r.1 h ι') s₅)
    (e : mkList tr r.1 σ = some (y, σ')) : After cls₀ h₀ ι s σ' (fun h ι' => Den cls₀ h ι' y (.ref D)) s₅ := by
  have a' := (a.close (own' := fun _ => False) fun b hb => .inr (hf b hb)).after
  refine a'.elim fun g o ext st k rr_ => ?_
  refine el_AEEA rr_ fun en us c eD ds => ?_
  have hDp : (cls.plus (cpl scope cenv D)).ex D := .inr (.inr rfl)
  have hx : ∀ a, cls₀.ex a → (cls.plus (cpl scope cenv D)).ex a := hx
  have hc : cls₀.c = (cls.plus (cpl scope cenv D)).c := hc
  unfold mkList at e
  refine check_e e fun _ e2 => ?_
  cases tr with
  | false =>
    refine pure_e e2 ?_
    exact ⟨g, o, ext, st, k.less hc hx, D, us, rfl, ⟨(k.exs D hDp).2.1, hD'⟩, ⟨c, eD⟩, Dens.less hc hx _ _ ds⟩
  | true =>
    refine bind_e e2 fun l σ₂ e3 e4 => ?_
    cases newObj_iff.mp e3
    refine pure_e e4 ?_
    refine ⟨g, o, ext ++ [D], ⟨st.keep, fun b hb => ?_⟩, ?_, D, rfl, ?_⟩
    · rcases List.mem_append.mp hb with q | q
      · exact st.fresh b q
      · rw [List.mem_singleton.mp q]; exact hf D (.inr rfl)
    · rw [← List.append_assoc]
      exact k.adopt hc hx hDp hD' ⟨us, ⟨c, eD⟩, Dens.adopt hc hx hDp _ _ ds⟩
    · rw [← List.append_assoc, ← k.len, List.getElem?_append_right (Nat.le_refl _), Nat.sub_self]; rfl
end
end Mine
end
section
open PySem PySem.W PyProof.Rows PySem.Spec
set_option maxRecDepth 100000
namespace Mine
section
variable {w : World} {A : Around} {E : Value → Shared → Prop} {s s₁ : Shared} {cls : Cx} {h₀ : Heap} {ι : List Addr} {σ σ' σ1 σ2 : Sg} {xs : List V} {tk : Option Nat} {I D : Addr} {i : Nat} {sc scope : Scope} {env : Env}
theorem it_self {Q : Value → Shared → Prop} (x : ItAt cls s.heap ι xs tk I i) (h : Q (.ref I) s) : wpAny (model prog w) A (pyIter (.ref I)) Q E s := by
  cases tk with
  | some l => obtain ⟨a, e, q⟩ := x; exact wpAny_pyIter_listiter q h
  | none =>
    rcases x with ⟨a, vs, _, q, _⟩ | ⟨a, vs, _, q, _⟩ | ⟨lo, m, q, e⟩
    · exact wpAny_pyIter_listiter q h
    · exact wpAny_pyIter_tupleiter q h
    · exact wpAny_pyIter_rangeiter q h
theorem compStart_sound {R : Result → Shared → Prop} {elt : Expr} {gens : List Comprehension} {pos : Pos} {d : Nat} {acc : Value} {g : Comprehension} (hg : gens[d]? = some g) (ha : g.is_async = 0)
    (x : ItAt cls s.heap ι xs tk I i) (h : codeAny (model prog w) A (.compLoop (.ListComp elt gens scope pos) d (.ref I) acc env) R s) : codeAny (model prog w) A (.compStart (.ListComp elt gens scope pos) d (.ref I) acc env) R s := by
  refine codeAny_of_tree ?_
  show wpAny _ _ ((compStart (.ListComp elt gens scope pos) d (.ref I) acc env).onRaise (fun x => do noteFrame x env; standAt theWindowsPlace)) _ _ s
  refine wpAny_notedAt ?_
  unfold compStart
  have hcl : clausesOf (.ListComp elt gens scope pos) = gens := rfl
  rw [hcl, hg]
  have : (Option.elim (some g) false fun x => x.is_async != 0) = false := by simp [ha]
  rw [this]
  rw [if_neg Bool.false_ne_true]
  refine wpAny_bind (wpAny_askSetting (wpAny_ite ?_))
  split
  · exact wpAny_pure ⟨rfl, h⟩
  · refine wpAny_bind (wpAny_rule (wpAny_bind (wpAny_standAt (wpAny_bind (it_self x ?_)))))
    exact wpAny_pure ⟨rfl, h⟩
theorem clause_sound {elt t iter : Expr} {ifs : List Expr} {gens rest : List Comprehension} {pos : Pos} {d : Nat} {cf : CF} {ρ0 : Rho} {emit : List V × Rho → M (List V × Rho)} {step : V → List V × Rho → M (List V × Rho)} {R : Result → Shared → Prop} {p p' : List V × Rho} {x : V} {v : Value}
    (hg : gens[d]? = some ⟨t, iter, ifs, 0⟩) (hga : ∀ g', gens[d + 1]? = some g' → g'.is_async = 0)
    (hh : A.handled = none) (fe : FrameEx cls env) (es : EnvSt scope env) (hD : cls.ex D) (hDL : D ≠ env.locals) (hDC : ∀ x, env.cells.lookup x ≠ some D)
    (hstep : ∀ v q, step v q = (do let ρ' ← asgT scope t v q.2; let ok ← tstAll P cf scope ρ' ifs; if ok then evG P cf sc ρ0 scope emit rest false (q.1, ρ') else pure (q.1, ρ')))
    (ht : ∀ I (ρ : Rho) (σ1 : Sg) (b : Bool) (σ2 : Sg) (s : Shared) (ι : List Addr) (E : Value → Shared → Prop), Ok (cls.plus (only I)) h₀ s.heap ι σ1 → EnvOK (cls.plus (only I)) s.heap ι scope env ρ → tstAll P cf scope ρ ifs σ1 = some (b, σ2) →
      wpAny (model prog w) A (cTests ifs env) (fun c s' => After (cls.plus (only I)) h₀ ι s σ2 (fun _ _ => c = b) s') E s)
    (hp : ∀ I (p : List V × Rho) (σ1 : Sg) (p' : List V × Rho) (σ2 : Sg) (s : Shared) (ι : List Addr) (E : Value → Shared → Prop) (k : Sem Fin) (Qk : Fin → Shared → Prop), Ok (cls.plus (only I)) h₀ s.heap ι σ1 → EnvOK (cls.plus (only I)) s.heap ι scope env p.2 →
      DAt (cls.plus (only I)) D p.1 s.heap ι → evG P cf sc ρ0 scope emit rest false p σ1 = some (p', σ2) →
      (∀ s', AfterO (OwnC scope env D) (cls.plus (only I)) h₀ ι s σ2 (fun h ι' => EnvOK (cls.plus (only I)) h ι' scope env p'.2 ∧ DAt (cls.plus (only I)) D p'.1 h ι') s' → wpAny (model prog w) A k Qk E s') →
      wpAny (model prog w) A (cPiece elt gens scope pos d (.ref D) env k) Qk E s)
    (k : Ok cls h₀ s.heap ι σ) (e : EnvOK cls s.heap ι scope env p.2) (da : DAt cls D p.1 s.heap ι) (dx : Den cls s.heap ι x v) (hw : walkV x σ = some ((xs, tk), σ1)) (he : compM (still xs tk) step xs p σ1 = some (p', σ2))
    (hR : ∀ s', AfterO (OwnC scope env D) cls h₀ ι s σ2 (fun h ι' => EnvOK cls h ι' scope env p'.2 ∧ DAt cls D p'.1 h ι') s' → R (.ok .next) s') :
    wpAny (model prog w) A (pyIter v) (fun it s' => codeAny (model prog w) A (.compStart (.ListComp elt gens scope pos) d it (.ref D) env) R s') E s := by
  refine iter_sound k dx hw fun I h' hσ htr hI hk it => ?_
  subst hσ
  have hIo : ¬ cls.ex I := fun q => by
    obtain ⟨⟨o, z⟩, _⟩ := k.exs I q
    rw [hI] at z; cases z
  have hp0 : ∀ a, only I a → s.heap.get? a = none := fun a q => by rw [show a = I from q]; exact hI
  refine compStart_sound hg rfl it ?_
  obtain ⟨T, vs, _, o, ho, _⟩ := it.obj
  refine compLoop_sound (s := s) (h₀ := h₀) (cls := cls) (ι := ι) (sc := sc) (ρ0 := ρ0) hg hga hh fe es hD hDL hDC hI hIo hstep (ht I) (hp I) ⟨⟨rfl, rfl, [], ⟨fun b o _ _ q => hk b o q, fun _ q => (List.not_mem_nil q).elim⟩, ?_, ?_⟩, htr⟩ he hR
  · rw [List.append_nil]
    exact k.plus hp0 hk fun b q => by rw [show b = I from q]; exact ⟨o, ho⟩
  · rw [List.append_nil]
    refine el_EEA da fun us c eD ds => ?_
    exact ⟨⟨e.plus hp0 hk, us, c, hk _ _ eD, Dens.kx (fun b o _ q => hk b o q) _ _ (Dens.plus hp0 _ _ ds)⟩, it⟩
theorem ItAt.plus {p : Addr → Prop} {h h' : Heap} (x : ItAt cls h ι xs tk I i) (hp : ∀ a, p a → h.get? a = none) (hk : ∀ b o, h.get? b = some o → h'.get? b = some o) : ItAt (cls.plus p) h' ι xs tk I i := by
  cases tk with
  | some l =>
    refine el_EA x fun a e q => ?_
    exact ⟨a, e, q.at fun o z => hk _ o z⟩
  | none =>
    rcases x with ⟨a, vs, o, q, ⟨n, p⟩, ds⟩ | ⟨a, vs, o, q, ⟨n, p⟩, ds⟩ | ⟨lo, m, q, e⟩
    · exact .inl ⟨a, vs, out_plus hp o p, q.at fun o z => hk _ o z, ⟨n, hk _ _ p⟩, Dens.kx (fun b o _ z => hk b o z) _ _ (Dens.plus hp _ _ ds)⟩
    · exact .inr (.inl ⟨a, vs, out_plus hp o p, q.at fun o z => hk _ o z, ⟨n, hk _ _ p⟩, Dens.kx (fun b o _ z => hk b o z) _ _ (Dens.plus hp _ _ ds)⟩)
    · exact .inr (.inr ⟨lo, m, hk _ _ q, e⟩)
theorem not_set {e : Expr} {cf : CF} {ρ : Rho} {r : V × Sg} (h : ev P cf sc ρ e σ = some r) : ∀ x, foldedSetIterable e env x = pure x := by
  intro x
  cases e <;> first | rfl | (exact (none_ne (α := V × Sg) h).elim)
theorem comp_go {use : Option (Value → Sem Unit)} {elt t iter : Expr} {ifs : List Expr} {rest : List Comprehension} {pos : Pos} {cf : CF} {ρ : Rho} {emit : List V × Rho → M (List V × Rho)} {step : V → List V × Rho → M (List V × Rho)} {r : List V × Rho} {x : V} {σa σb σc : Sg} {Q : Value → Shared → Prop}
    (hga : ∀ g', (rest : List Comprehension)[0]? = some g' → g'.is_async = 0) (hh : A.handled = none) (fe : FrameEx cls env) (es : EnvSt sc env) (hs : scopeOk scope = true) (hf : freesOk sc scope = true)
    (k : Ok cls h₀ s.heap ι σ) (e : EnvOK cls s.heap ι sc env ρ) (hset : ∀ x, foldedSetIterable iter env x = pure x)
    (hstep : ∀ v q, step v q = (do let ρ' ← asgT scope t v q.2; let ok ← tstAll P cf scope ρ' ifs; if ok then evG P cf sc ρ scope emit rest false (q.1, ρ') else pure (q.1, ρ')))
    (hfirst : wpAny (model prog w) A (eval iter env) (Ret cls h₀ ι s σa x) E s)
    (ht : ∀ (cls' : Cx) (cenv : Env) (ρ : Rho) (σ1 : Sg) (b : Bool) (σ2 : Sg) (s : Shared) (ι : List Addr) (E : Value → Shared → Prop), cls'.c = cls.c → FrameEx cls' cenv → EnvSt scope cenv → Ok cls' h₀ s.heap ι σ1 → EnvOK cls' s.heap ι scope cenv ρ → tstAll P cf scope ρ ifs σ1 = some (b, σ2) →
      wpAny (model prog w) A (cTests ifs cenv) (fun c s' => After cls' h₀ ι s σ2 (fun _ _ => c = b) s') E s)
    (hp : ∀ (cls' : Cx) (cenv : Env) (D : Addr) (p : List V × Rho) (σ1 : Sg) (p' : List V × Rho) (σ2 : Sg) (s : Shared) (ι : List Addr) (E : Value → Shared → Prop) (k : Sem Fin) (Qk : Fin → Shared → Prop), cls'.c = cls.c → FrameEx cls' cenv → EnvSt scope cenv → cls'.ex D → D ≠ cenv.locals → (∀ x, cenv.cells.lookup x ≠ some D) →
      Ok cls' h₀ s.heap ι σ1 → EnvOK cls' s.heap ι scope cenv p.2 → DAt cls' D p.1 s.heap ι → evG P cf sc ρ scope emit rest false p σ1 = some (p', σ2) →
      (∀ s', AfterO (OwnC scope cenv D) cls' h₀ ι s σ2 (fun h ι' => EnvOK cls' h ι' scope cenv p'.2 ∧ DAt cls' D p'.1 h ι') s' → wpAny (model prog w) A k Qk E s') →
      wpAny (model prog w) A (cPiece elt (⟨t, iter, ifs, 0⟩ :: rest) scope pos 0 (.ref D) cenv k) Qk E s)
    (hw : walkV x σa = some ((xs, tk), σb)) (he : compM (still xs tk) step xs ([], compRho scope ρ) σb = some (r, σc))
    (hQ : ∀ (s₁ s₅ : Shared) (ext : List Addr) (cenv : Env) (D : Addr), s₁.gens = s.gens → s₁.os = s.os → Step ι ext s.heap s₁.heap → Ok cls h₀ s₁.heap (ι ++ ext) σa → (∀ b, cpl scope cenv D b → s₁.heap.get? b = none) → D ≠ cenv.locals → (∃ m, s₅.heap.Ns cenv.locals m) →
      AfterO (OwnC scope cenv D) (cls.plus (cpl scope cenv D)) h₀ (ι ++ ext) s₁ σc (fun h ι' => EnvOK (cls.plus (cpl scope cenv D)) h ι' scope cenv r.2 ∧ DAt (cls.plus (cpl scope cenv D)) D r.1 h ι') s₅ →
      compPost (model prog w) A E use Q (.ref D) cenv.locals (.ok .next) s₅) :
    wpAny (model prog w) A (comprehension (.ListComp elt (⟨t, iter, ifs, 0⟩ :: rest) scope pos) scope env (firstIterPos (⟨t, iter, ifs, 0⟩ :: rest) pos) (newList []) (firstAsync (⟨t, iter, ifs, 0⟩ :: rest)) (firstIter (⟨t, iter, ifs, 0⟩ :: rest) env) use) Q E s := by
  have hs' := hs
  unfold scopeOk at hs'
  simp only [Bool.and_eq_true, beq_iff_eq] at hs'
  have hfree : ∀ x k, (x, k) ∈ scope.names → k = .free → ∃ c, env.cells.lookup x = some c := fun x k hm hk => by
    subst hk
    rcases freesOk_spec hf hm with q | q
    · exact es.own x q
    · exact es.fre x q
  refine wpAny_comprehension_free (g := ⟨t, iter, ifs, 0⟩) (gs := rest) rfl hset (closureFor_eq hfree) hs'.1 (fun p hp hl => nodupB_mem hs'.2 (by rw [← hl]; exact hp)) ?_
  refine wpAny_mono (show wpAny (model prog w) A (eval iter env) _ E s from hfirst) (fun v s₁ a => ?_) fun _ _ z => z
  refine a.elim fun g1 o1 ext st k1 d1 => ?_
  have e1 := e.step fe k st
  refine iter_sound k1 d1 hw fun I h' hσ htr hI hk it => ?_
  subst hσ
  have hIo : ¬ cls.ex I := fun q => by
    obtain ⟨⟨o, z⟩, _⟩ := k1.exs I q
    rw [hI] at z; cases z
  have hp0 : ∀ a, only I a → s₁.heap.get? a = none := fun a q => by rw [show a = I from q]; exact hI
  obtain ⟨T, vs, _, oI, hoI, _, hdI⟩ := it.obj
  have e2 : EnvOK (cls.plus (only I)) h' (ι ++ ext) sc env ρ := e1.plus hp0 hk
  have k2 : Ok (cls.plus (only I)) h₀ h' (ι ++ ext) σb := k1.plus hp0 hk fun b q => by rw [show b = I from q]; exact ⟨oI, hoI⟩
  have CF := comp_frame (scope := scope) es fe.plus e2 k2 hs hf
  refine wpAny_newObj_type ?_
  refine compEnv_new ?_
  have hDsz : (h'.push { cls := .type "list", data := .seq ([] : List Value).toArray }).objs.size = h'.objs.size + 1 := Heap.size_push ..
  show codeAny _ _ (.compStart _ 0 (.ref I) (.ref h'.objs.size) (compEnvC scope (cellsFrom ((h'.push { cls := .type "list", data := .seq ([] : List Value).toArray }).objs.size + 1) scope.names (clos env scope.names [])) (h'.push { cls := .type "list", data := .seq ([] : List Value).toArray }).objs.size env)) _ _
  rw [hDsz]
  generalize hcenv : compEnvC scope (cellsFrom (h'.objs.size + 1 + 1) scope.names (clos env scope.names [])) (h'.objs.size + 1) env = cenv at CF ⊢
  generalize hH3 : pushCells ((h'.push { cls := .type "list", data := .seq ([] : List Value).toArray }).push { cls := .type "dict", data := .dict #[] }) scope.names = H3 at CF ⊢
  have hl : cenv.locals = h'.objs.size + 1 := by rw [← hcenv]; rfl
  generalize hDD : h'.objs.size = D at CF hl ⊢
  have hcomm : (cls.plus (only I)).plus (cpl scope cenv D) = (cls.plus (cpl scope cenv D)).plus (only I) := by
    unfold Cx.plus
    congr 1
    funext a
    exact propext ⟨fun q => by rcases q with (q | q) | q; exact .inl (.inl q); exact .inr q; exact .inl (.inr q), fun q => by rcases q with (q | q) | q; exact .inl (.inl q); exact .inr q; exact .inl (.inr q)⟩
  have it3 : ItAt ((cls.plus (only I)).plus (cpl scope cenv D)) H3 (ι ++ ext) xs tk I 0 := it.plus CF.fresh CF.keep
  have fe3 : FrameEx (cls.plus (cpl scope cenv D)) cenv := by
    have hnI : ∀ a, cpl scope cenv D a → a ≠ I := fun a q z => by
      have := CF.fresh a q
      rw [z, hoI] at this; cases this
    refine ⟨.inr (.inl (.inl rfl)), fun x c q => ?_⟩
    rcases CF.fe.c x c q with (z | z) | z
    · exact .inl z
    · exfalso
      obtain ⟨ov, ⟨ob, hob, hod⟩, _⟩ := CF.env.ce x c q
      rw [show c = I from z, CF.keep I oI hoI] at hob
      cases hob
      rw [hdI] at hod; cases hod
    · exact .inr z
  have cok := CF.ok
  have cenvok := CF.env
  have cd := CF.d
  rw [hcomm] at it3 cok cenvok cd
  have hfresh1 : ∀ b, cpl scope cenv D b → s₁.heap.get? b = none := fun b q => by
    cases z : s₁.heap.get? b with
    | none => rfl
    | some o => have := CF.fresh b q; rw [hk b o z] at this; cases this
  have hIpl : ¬ cpl scope cenv D I := fun q => by
    have := CF.fresh I q
    rw [hoI] at this; cases this
  refine compStart_sound (cls := (cls.plus (cpl scope cenv D)).plus (only I)) (xs := xs) (tk := tk) (i := 0) (g := ⟨t, iter, ifs, 0⟩) (ι := ι ++ ext) rfl rfl it3 ?_
  refine compLoop_sound (s := s₁) (h₀ := h₀) (cls := cls.plus (cpl scope cenv D)) (ι := ι ++ ext) (sc := sc) (ρ0 := ρ) (σ1 := σb) (σ2 := σc) (p := ([], compRho scope ρ)) (p' := r) rfl (fun g' q => hga g' (by simpa using q)) hh fe3 CF.st (.inr (.inr rfl)) CF.dl CF.dc hI
    (fun q => q.elim hIo hIpl) hstep (fun ρ σ1 b σ2 s ι E k e q => ht ((cls.plus (cpl scope cenv D)).plus (only I)) cenv ρ σ1 b σ2 s ι E rfl fe3.plus CF.st k e q)
    (fun p σ1 p' σ2 s ι E kk Qk k e d q z => hp ((cls.plus (cpl scope cenv D)).plus (only I)) cenv D p σ1 p' σ2 s ι E kk Qk rfl fe3.plus CF.st (.inl (.inr (.inr rfl))) CF.dl CF.dc k e d q z)
    ⟨⟨rfl, rfl, [], ⟨fun b o _ _ q => CF.keep b o (hk b o q), fun _ q => (List.not_mem_nil q).elim⟩, by rw [List.append_nil]; exact cok, by rw [List.append_nil]; exact ⟨⟨cenvok, cd⟩, it3⟩⟩, htr⟩ he fun s₅ a5 => ?_
  have hm : ∃ m, s₅.heap.Ns cenv.locals m := by
    obtain ⟨_, _, ext5, _, _, en5, _⟩ := a5
    refine el_EA en5.ns fun m hm _ => ?_
    exact ⟨m, hm⟩
  have z := hQ s₁ s₅ ext cenv D g1 o1 st k1 hfresh1 CF.dl hm a5
  rw [hl] at z
  exact z
end
end Mine
end
section
open PySem PySem.W PyProof.Rows PySem.Spec
set_option maxRecDepth 100000
namespace Mine
structure Here (n : Nat) (cls : Cx) (sc : Scope) (env : Env) (A : Around) : Prop where
  rm : RoomE n A
  cm : cls.c = cm
  fe : FrameEx cls env
  es : EnvSt sc env
structure Path (ι : List Addr) (s : Shared) (ι₁ : List Addr) (s₁ : Shared) : Prop where
  gens : s₁.gens = s.gens
  os : s₁.os = s.os
  ex : ∃ ext, ι₁ = ι ++ ext ∧ Step ι ext s.heap s₁.heap
section
variable {w : World} {A : Around} {E : Value → Shared → Prop} {s s₁ s₂ : Shared} {cls : Cx} {h₀ : Heap} {ι ι₁ ι₂ : List Addr} {σ σ' σ1 σ2 : Sg} {sc : Scope} {env : Env} {ρ : Rho}
theorem Path.lift {R : Heap → List Addr → Prop} (p : Path ι s ι₁ s₁) (a : After cls h₀ ι₁ s₁ σ R s₂) : After cls h₀ ι s σ R s₂ := by
  refine el_EA p.ex fun ext e st => ?_
  exact After.trans p.gens p.os st e a fun _ _ _ z => z
theorem Path.fin {α : Type} {m : Sem α} {R : α → Heap → List Addr → Prop} (p : Path ι s ι₁ s₁) (h : wpAny (model prog w) A m (fun v s' => After cls h₀ ι₁ s₁ σ (R v) s') E s₁) : wpAny (model prog w) A m (fun v s' => After cls h₀ ι s σ (R v) s') E s₁ :=
  wpAny_mono h (fun _ _ q => p.lift q) fun _ _ e => e
theorem Path.den {x : V} {v : Value} (p : Path ι s ι₁ s₁) (d : Den cls s.heap ι x v) : Den cls s₁.heap ι₁ x v := by
  refine el_EA p.ex fun ext hq1_ st => ?_
  refine eq_l hq1_ ?_
  exact Den.step st.keep st.fresh x v d
theorem Path.dens {x : List V} {v : List Value} (p : Path ι s ι₁ s₁) (d : Dens cls s.heap ι x v) : Dens cls s₁.heap ι₁ x v := by
  refine el_EA p.ex fun ext hq1_ st => ?_
  refine eq_l hq1_ ?_
  exact Dens.step st.keep st.fresh x v d
theorem Path.envs (p : Path ι s ι₁ s₁) (fe : FrameEx cls env) (k : Ok cls h₀ s.heap ι σ) (e : EnvOK cls s.heap ι sc env ρ) : EnvOK cls s₁.heap ι₁ sc env ρ := by
  refine el_EA p.ex fun ext hq1_ st => ?_
  refine eq_l hq1_ ?_
  exact e.step fe k st
theorem then_ {α : Type} {m : Sem α} {R1 : α → Heap → List Addr → Prop} {G : α → Shared → Prop} (h1 : wpAny (model prog w) A m (fun v s' => After cls h₀ ι s σ1 (R1 v) s') E s)
    (h2 : ∀ v s₁ ι₁, Path ι s ι₁ s₁ → Ok cls h₀ s₁.heap ι₁ σ1 → R1 v s₁.heap ι₁ → G v s₁) : wpAny (model prog w) A m G E s :=
  wpAny_mono h1 (fun v s₁ q => by
    refine q.elim fun g o ext st k r => ?_
    exact h2 v s₁ _ ⟨g, o, ext, rfl, st⟩ k r) fun _ _ e => e
end
section
variable (w : World) (cf : CF) (h₀ : Heap) (n : Nat)
noncomputable def EvOK (x : Expr) : Prop := ∀ (cls : Cx) (env : Env) (sc : Scope) (ρ : Rho) (A : Around) (E : Value → Shared → Prop) (s : Shared) (ι : List Addr) (σ σ' : Sg) (v : V), Here n cls sc env A → Ok cls h₀ s.heap ι σ → EnvOK cls s.heap ι sc env ρ →
  ev P cf sc ρ x σ = some (v, σ') → wpAny (model prog w) A (eval x env) (Ret cls h₀ ι s σ' v) E s
noncomputable def TstOK (x : Expr) : Prop := ∀ (cls : Cx) (env : Env) (sc : Scope) (ρ : Rho) (A : Around) (E : Value → Shared → Prop) (s : Shared) (ι : List Addr) (σ σ' : Sg) (b : Bool), Here n cls sc env A → Ok cls h₀ s.heap ι σ → EnvOK cls s.heap ι sc env ρ →
  tst P cf sc ρ x (ev P cf sc ρ x) σ = some (b, σ') → wpAny (model prog w) A (isTrue x env (eval x env)) (fun c s' => After cls h₀ ι s σ' (fun _ _ => c = b) s') E s
end
section
variable {w : World} {cf : CF} {K : Frag} {h₀ : Heap} {n : Nat}
variable {A : Around} {E : Value → Shared → Prop} {s s₁ s₂ : Shared} {cls : Cx} {ι ι₁ ι₂ : List Addr} {σ σ' σ1 σ2 : Sg} {sc : Scope} {env : Env} {ρ : Rho}
theorem evs_sound : ∀ (es : List Expr) (pos : Pos) (s : Shared) (ι : List Addr) (σ σ' : Sg) (vs : List V), (∀ x ∈ es, EvOK w cf h₀ n x) → Here n cls sc env A → Ok cls h₀ s.heap ι σ → EnvOK cls s.heap ι sc env ρ → evs P cf sc ρ es σ = some (vs, σ') →
    wpAny (model prog w) A (spliced (backTo pos (starEach es env))) (fun us s' => After cls h₀ ι s σ' (fun h' ι' => Dens cls h' ι' vs us) s') E s
  | [], pos, s, ι, σ, σ', vs, _, H, k, e, he => by
    rw [qs1] at he
    refine pure_e he ?_
    exact spliced_none (After.same k rfl rfl rfl rfl)
  | x :: es, pos, s, ι, σ, σ', vs, ih, H, k, e, he => by
    have hn := evs_noStar he
    rw [qs2] at he
    refine bind_e he fun v σ1 e1 e2 => ?_
    refine bind_e e2 fun us σ2 e3 e4 => ?_
    cases pure_iff.mp e4
    refine spliced_more ?_ (star_cons hn).1
    refine then_ (ih x (by simp) cls env sc ρ A E s ι σ σ1 v H k e e1) fun u s₁ ι₁ p k1 d1 => ?_
    refine then_ (evs_sound es pos s₁ ι₁ σ1 σ' us (fun y hy => ih y (List.mem_cons_of_mem _ hy)) H k1 (p.envs H.fe k e) e3) fun uus s₂ ι₂ p2 k2 d2 => ?_
    exact p.lift (p2.lift (After.same k2 rfl rfl rfl ⟨u, uus, rfl, p2.den d1, d2⟩))
theorem truth_iff {v : V} {b : Bool} (h : truth v σ = some (b, σ')) : v = .bool b ∧ σ' = σ := by
  cases v <;> first | exact fail_e h | skip
  exact pure_e h ⟨rfl, rfl⟩
theorem evB_sound (op : BoolOp) (pos : Pos) : ∀ (es : List Expr) (s : Shared) (ι : List Addr) (σ σ' : Sg) (v : V), (∀ x ∈ es, EvOK w cf h₀ n x) → Here n cls sc env A → Ok cls h₀ s.heap ι σ → EnvOK cls s.heap ι sc env ρ → evB P cf sc ρ op es σ = some (v, σ') →
    wpAny (model prog w) A (boolOp pos op (evalEach es env)) (Ret cls h₀ ι s σ' v) E s
  | [], s, ι, σ, σ', v, _, H, k, e, he => by
    rw [qB1] at he
    exact (fail_iff.mp he).elim
  | [x], s, ι, σ, σ', v, ih, H, k, e, he => by
    rw [qB2] at he
    refine bind_e he fun u σ1 e1 e2 => ?_
    rw [if_pos (show ([] : List Expr).isEmpty = true from rfl)] at e2
    refine pure_e e2 ?_
    exact ih x (by simp) cls env sc ρ A E s ι σ _ _ H k e e1
  | x :: y :: r, s, ι, σ, σ', v, ih, H, k, e, he => by
    rw [qB2] at he
    refine bind_e he fun u σ1 e1 e2 => ?_
    rw [List.isEmpty_cons, if_neg Bool.false_ne_true] at e2
    refine bind_e e2 fun t σ2 e3 e4 => ?_
    obtain ⟨rfl, rfl⟩ := truth_iff e3
    show wpAny _ _ (do
      let v ← eval x env
      standAt pos
      let t ← holding [v] (truthy v)
      match op, t with
      | .And, false | .Or, true => pure v
      | _, _ => boolOp pos op (evalEach (y :: r) env)) _ _ _
    refine wpAny_bind (then_ (ih x (by simp) cls env sc ρ A E s ι σ _ _ H k e e1) fun uv s₁ ι₁ p k1 d1 => ?_)
    have : uv = .bool t := d1
    subst this
    refine wpAny_bind (wpAny_standAt (wpAny_bind (wpAny_holding (wpAny_truthy_bool ?_))))
    have go : evB P cf sc ρ op (y :: r) σ2 = some (v, σ') → wpAny (model prog w) A (boolOp pos op (evalEach (y :: r) env)) (Ret cls h₀ ι s σ' v) E s₁ := fun q =>
      p.fin (evB_sound op pos (y :: r) s₁ ι₁ σ2 σ' v (fun z hz => ih z (List.mem_cons_of_mem _ hz)) H k1 (p.envs H.fe k e) q)
    have done : v = .bool t → σ' = σ2 → Ret cls h₀ ι s σ' v (.bool t) s₁ := fun q1 q2 => by
      subst q1; subst q2
      exact p.lift (After.same k1 rfl rfl rfl rfl)
    cases op <;> cases t <;> dsimp only at e4 ⊢
    · cases pure_iff.mp e4; exact wpAny_pure (done rfl rfl)
    · exact go e4
    · exact go e4
    · cases pure_iff.mp e4; exact wpAny_pure (done rfl rfl)
theorem marked_eq {op : CmpOp} {x : Expr} {r : V × Sg} (h : ev P cf sc ρ x σ = some r) (t : Sem Value) : markedBehindIn op x t = t := by
  have : behindInMarks op x = false := by cases x <;> first | rfl | (exact (none_ne (α := V × Sg) h).elim)
  unfold markedBehindIn
  rw [this]
theorem chain_eq {pos : Pos} {va : Value} {op : CmpOp} {ops : List CmpOp} {t : Sem Value} {ts : List (Sem Value)} (h : ¬ (ops = [] ∧ ts = [])) : compareChain pos va (op :: ops) (t :: ts) = (do
    let rv ← holding [va] t
    standAt pos
    let c ← holding [va, rv] (compareOp op va rv)
    release [va, rv] [c]
    if ← holding [c, rv] (truthy c) then compareChain pos rv ops ts else pure c) := by
  cases ops with
  | nil =>
    cases ts with
    | nil => exact absurd ⟨rfl, rfl⟩ h
    | cons m ms => rfl
  | cons o os => cases ts <;> rfl
theorem tchain_eq {pos : Pos} {va : Value} {op : CmpOp} {ops : List CmpOp} {t : Sem Value} {ts : List (Sem Value)} (h : ¬ (ops = [] ∧ ts = [])) : testChain pos va (op :: ops) (t :: ts) = (do
    let rv ← holding [va] t
    standAt pos
    let c ← holding [va, rv] (compareOp op va rv)
    release [va, rv] [c]
    if ← holding [c, rv] (truthy c) then testChain pos rv ops ts else pure false) := by
  cases ops with
  | nil =>
    cases ts with
    | nil => exact absurd ⟨rfl, rfl⟩ h
    | cons m ms => rfl
  | cons o os => cases ts <;> rfl
theorem chain_one {x : Expr} {op : CmpOp} (pos : Pos) (a : V) (va : Value) (s : Shared) (ι : List Addr) (σ σ' : Sg) (c : Bool) (ih : EvOK w cf h₀ n x) (H : Here n cls sc env A) (k : Ok cls h₀ s.heap ι σ) (e : EnvOK cls s.heap ι sc env ρ) (d : Den cls s.heap ι a va) (he : evC P cf sc ρ a [op] [x] σ = some (c, σ')) :
    wpAny (model prog w) A (compareChain pos va [op] (markedEach [op] [x] (evalEach [x] env))) (Ret cls h₀ ι s σ' (.bool c)) E s ∧
    wpAny (model prog w) A (testChain pos va [op] (markedEach [op] [x] (evalEach [x] env))) (fun b s' => After cls h₀ ι s σ' (fun _ _ => b = c) s') E s := by
    rw [qC1] at he
    refine bind_e he fun b σ1 e1 e2 => ?_
    refine bind_e e2 fun c' σ2 e3 e4 => ?_
    rw [List.isEmpty_nil, List.isEmpty_nil, Bool.and_self, if_pos rfl] at e4
    cases pure_iff.mp e4
    have hm : markedEach [op] [x] (evalEach [x] env) = [eval x env] := by
      show [markedBehindIn op x (eval x env)] = _
      rw [marked_eq e1]
    rw [hm]
    constructor
    · show wpAny _ _ (do
        let rv ← holding [va] (eval x env)
        standAt pos
        operate [va, rv] (compareOp op va rv)) _ _ _
      refine wpAny_bind (wpAny_holding (then_ (ih cls env sc ρ A E s ι σ _ _ H k e e1) fun vb s₁ ι₁ p k1 d1 => ?_))
      obtain ⟨rfl, q⟩ := cmpV_sound (w := w) (A := A) (E := E) (Q := Ret cls h₀ ι s σ' (.bool c)) H.rm.room k1 (p.den d) d1 e3
      exact wpAny_bind (wpAny_standAt (wpAny_operate' (q (p.lift (After.same k1 rfl rfl rfl rfl)))))
    · show wpAny _ _ (do
        let rv ← holding [va] (eval x env)
        standAt pos
        let c ← operate [va, rv] (compareOp op va rv)
        holding [c] (truthy c)) _ _ _
      refine wpAny_bind (wpAny_holding (then_ (ih cls env sc ρ A E s ι σ _ _ H k e e1) fun vb s₁ ι₁ p k1 d1 => ?_))
      obtain ⟨rfl, q⟩ := cmpV_sound (w := w) (A := A) (E := E) (Q := fun v s' => wpAny (model prog w) A (holding [v] (truthy v)) (fun b s' => After cls h₀ ι s σ' (fun _ _ => b = c) s') E s') H.rm.room k1 (p.den d) d1 e3
      exact wpAny_bind (wpAny_standAt (wpAny_bind (wpAny_operate' (q (wpAny_holding (wpAny_truthy_bool (p.lift (After.same k1 rfl rfl rfl rfl))))))))
theorem chain_sound (pos : Pos) : ∀ (cs : List Expr) (ops : List CmpOp) (a : V) (va : Value) (s : Shared) (ι : List Addr) (σ σ' : Sg) (c : Bool), (∀ x ∈ cs, EvOK w cf h₀ n x) → Here n cls sc env A → Ok cls h₀ s.heap ι σ → EnvOK cls s.heap ι sc env ρ → Den cls s.heap ι a va → evC P cf sc ρ a ops cs σ = some (c, σ') →
    wpAny (model prog w) A (compareChain pos va ops (markedEach ops cs (evalEach cs env))) (Ret cls h₀ ι s σ' (.bool c)) E s ∧
    wpAny (model prog w) A (testChain pos va ops (markedEach ops cs (evalEach cs env))) (fun b s' => After cls h₀ ι s σ' (fun _ _ => b = c) s') E s
  | [], ops, a, va, s, ι, σ, σ', c, _, H, k, e, d, he => by
    cases ops <;> exact (none_ne (α := Bool × Sg) he).elim
  | x :: cs, [], a, va, s, ι, σ, σ', c, _, H, k, e, d, he => by exact (none_ne (α := Bool × Sg) he).elim
  | x :: cs, op :: ops, a, va, s, ι, σ, σ', c, ih, H, k, e, d, he => by
    by_cases hb : (ops.isEmpty && cs.isEmpty) = true
    · simp only [Bool.and_eq_true, List.isEmpty_iff] at hb
      obtain ⟨rfl, rfl⟩ := hb
      exact chain_one pos a va s ι σ σ' c (ih x (by simp)) H k e d he
    rw [qC1] at he
    refine bind_e he fun b σ1 e1 e2 => ?_
    refine bind_e e2 fun c' σ2 e3 e4 => ?_
    rw [if_neg hb] at e4
    have hm : markedEach (op :: ops) (x :: cs) (evalEach (x :: cs) env) = eval x env :: markedEach ops cs (evalEach cs env) := by
      cases ops with
      | nil =>
        cases cs with
        | nil => exact absurd rfl hb
        | cons y cs => rfl
      | cons o os => cases cs <;> rfl
    have hne : ¬ (ops = [] ∧ markedEach ops cs (evalEach cs env) = []) := fun q => by
      obtain ⟨rfl, q⟩ := q
      cases cs with
      | nil => exact hb rfl
      | cons y cs => cases cs <;> cases q
    rw [hm]
    generalize hms : markedEach ops cs (evalEach cs env) = ms at hne
    constructor
    · rw [chain_eq hne]
      refine wpAny_bind (wpAny_holding (then_ (ih x (by simp) cls env sc ρ A E s ι σ _ _ H k e e1) fun vb s₁ ι₁ p k1 d1 => ?_))
      refine wpAny_bind (wpAny_standAt (wpAny_bind (wpAny_holding ?_)))
      obtain ⟨rfl, q⟩ := cmpV_sound (w := w) (A := A) (E := E) (Q := fun c s' => wpAny (model prog w) A (do
        release [va, vb] [c]
        if ← holding [c, vb] (truthy c) then compareChain pos vb ops ms else pure c) (Ret cls h₀ ι s σ' (.bool _)) E s') H.rm.room k1 (p.den d) d1 e3
      refine q (wpAny_bind (wpAny_release' (wpAny_bind (wpAny_holding (wpAny_truthy_bool ?_)))))
      cases c' with
      | true =>
        rw [if_pos rfl] at e4 ⊢
        rw [← hms]
        exact p.fin (chain_sound pos cs ops b vb s₁ ι₁ σ2 σ' c (fun z hz => ih z (List.mem_cons_of_mem _ hz)) H k1 (p.envs H.fe k e) d1 e4).1
      | false =>
        rw [if_neg Bool.false_ne_true] at e4 ⊢
        refine pure_e e4 ?_
        exact wpAny_pure (p.lift (After.same k1 rfl rfl rfl rfl))
    · rw [tchain_eq hne]
      refine wpAny_bind (wpAny_holding (then_ (ih x (by simp) cls env sc ρ A E s ι σ _ _ H k e e1) fun vb s₁ ι₁ p k1 d1 => ?_))
      refine wpAny_bind (wpAny_standAt (wpAny_bind (wpAny_holding ?_)))
      obtain ⟨rfl, q⟩ := cmpV_sound (w := w) (A := A) (E := E) (Q := fun c s' => wpAny (model prog w) A (do
        release [va, vb] [c]
        if ← holding [c, vb] (truthy c) then testChain pos vb ops ms else pure false) (fun b s' => After cls h₀ ι s σ' (fun _ _ => b = _) s') E s') H.rm.room k1 (p.den d) d1 e3
      refine q (wpAny_bind (wpAny_release' (wpAny_bind (wpAny_holding (wpAny_truthy_bool ?_)))))
      cases c' with
      | true =>
        rw [if_pos rfl] at e4 ⊢
        rw [← hms]
        exact p.fin (chain_sound pos cs ops b vb s₁ ι₁ σ2 σ' c (fun z hz => ih z (List.mem_cons_of_mem _ hz)) H k1 (p.envs H.fe k e) d1 e4).2
      | false =>
        rw [if_neg Bool.false_ne_true] at e4 ⊢
        refine pure_e e4 ?_
        exact wpAny_pure (p.lift (After.same k1 rfl rfl rfl rfl))
end
end Mine
end
section
open PySem PySem.W PyProof.Rows PySem.Spec
set_option maxRecDepth 100000
namespace Mine
section
variable {w : World} {cf : CF} {K : Frag} {h₀ : Heap} {n : Nat}
variable {A : Around} {E : Value → Shared → Prop} {s s₁ s₂ : Shared} {cls : Cx} {ι ι₁ ι₂ : List Addr} {σ σ' σ1 σ2 : Sg} {sc : Scope} {env : Env} {ρ : Rho}
theorem tstB_sound (op : BoolOp) : ∀ (es : List Expr) (s : Shared) (ι : List Addr) (σ σ' : Sg) (b : Bool), (∀ x ∈ es, TstOK w cf h₀ n x) → Here n cls sc env A → Ok cls h₀ s.heap ι σ → EnvOK cls s.heap ι sc env ρ → tstB P cf sc ρ op es σ = some (b, σ') →
    wpAny (model prog w) A (allTrue op es env) (fun c s' => After cls h₀ ι s σ' (fun _ _ => c = b) s') E s
  | [], s, ι, σ, σ', b, _, H, k, e, he => by
    rw [qtB1] at he
    refine pure_e he ?_
    exact wpAny_pure (After.same k rfl rfl rfl rfl)
  | x :: es, s, ι, σ, σ', b, ih, H, k, e, he => by
    rw [qtB2] at he
    refine bind_e he fun t σ1 e1 e2 => ?_
    rw [arm_allTrue_cons]
    refine wpAny_bind (then_ (ih x (by simp) cls env sc ρ A E s ι σ _ _ H k e e1) fun c s₁ ι₁ p k1 d1 => ?_)
    have d1 : c = t := d1
    subst d1
    have go : tstB P cf sc ρ op es σ1 = some (b, σ') → wpAny (model prog w) A (allTrue op es env) (fun c s' => After cls h₀ ι s σ' (fun _ _ => c = b) s') E s₁ := fun q =>
      p.fin (tstB_sound op es s₁ ι₁ σ1 σ' b (fun z hz => ih z (List.mem_cons_of_mem _ hz)) H k1 (p.envs H.fe k e) q)
    cases op <;> cases c <;> dsimp only at e2 ⊢
    · cases pure_iff.mp e2; exact wpAny_pure (p.lift (After.same k1 rfl rfl rfl rfl))
    · exact go e2
    · exact go e2
    · cases pure_iff.mp e2; exact wpAny_pure (p.lift (After.same k1 rfl rfl rfl rfl))
theorem cTests_false (ifs : List Expr) (env : Env) : (forIn ifs false fun c r => if r = true then do let ok ← isTrue c env (eval c env); pure (ForInStep.yield ok) else pure (ForInStep.yield r) : Sem Bool) = pure false := by
  induction ifs with
  | nil => rfl
  | cons x r ih =>
    rw [List.forIn_cons]
    rw [if_neg Bool.false_ne_true]
    exact ih
theorem tstAll_sound : ∀ (es : List Expr) (s : Shared) (ι : List Addr) (σ σ' : Sg) (b : Bool), (∀ x ∈ es, TstOK w cf h₀ n x) → Here n cls sc env A → Ok cls h₀ s.heap ι σ → EnvOK cls s.heap ι sc env ρ → tstAll P cf sc ρ es σ = some (b, σ') →
    wpAny (model prog w) A (cTests es env) (fun c s' => After cls h₀ ι s σ' (fun _ _ => c = b) s') E s
  | [], s, ι, σ, σ', b, _, H, k, e, he => by
    rw [qtA1] at he
    refine pure_e he ?_
    unfold cTests
    rw [List.forIn_nil]
    exact wpAny_pure (After.same k rfl rfl rfl rfl)
  | x :: es, s, ι, σ, σ', b, ih, H, k, e, he => by
    rw [qtA2] at he
    refine bind_e he fun t σ1 e1 e2 => ?_
    unfold cTests
    rw [List.forIn_cons]
    rw [if_pos rfl]
    refine wpAny_bind (wpAny_bind (then_ (ih x (by simp) cls env sc ρ A E s ι σ _ _ H k e e1) fun c s₁ ι₁ p k1 d1 => ?_))
    have d1 : c = t := d1
    subst d1
    refine wpAny_pure ?_
    dsimp only
    cases c with
    | true =>
      rw [if_pos rfl] at e2
      exact p.fin (tstAll_sound es s₁ ι₁ σ1 σ' b (fun z hz => ih z (List.mem_cons_of_mem _ hz)) H k1 (p.envs H.fe k e) e2)
    | false =>
      rw [if_neg Bool.false_ne_true] at e2
      refine pure_e e2 ?_
      rw [cTests_false]
      exact wpAny_pure (p.lift (After.same k1 rfl rfl rfl rfl))
theorem tst_plain {x : Expr} (ih : EvOK w cf h₀ n x) (ht : ∀ (P : Prm) (cf : CF) sc ρ (m : M V), tst P cf sc ρ x m = (do let v ← m; truth v)) (hi : ∀ env whole, isTrue x env whole = (do let v ← whole; standAt x.pos; holding [v] (truthy v))) : TstOK w cf h₀ n x := by
  intro cls env sc ρ A E s ι σ σ' b H k e he
  rw [ht] at he
  refine bind_e he fun v σ1 e1 e2 => ?_
  obtain ⟨rfl, rfl⟩ := truth_iff e2
  rw [hi]
  refine wpAny_bind (then_ (ih cls env sc ρ A E s ι σ _ _ H k e e1) fun u s₁ ι₁ p k1 d1 => ?_)
  have : u = .bool b := d1
  subst this
  exact wpAny_bind (wpAny_standAt (wpAny_holding (wpAny_truthy_bool (p.lift (After.same k1 rfl rfl rfl rfl)))))
theorem tst_not {x : Expr} {pos : Pos} (ih : TstOK w cf h₀ n x) : TstOK w cf h₀ n (.UnaryOp .Not x pos) := by
  intro cls env sc ρ A E s ι σ σ' b H k e he
  rw [qt1] at he
  refine bind_e he fun t σ1 e1 e2 => ?_
  refine pure_e e2 ?_
  refine wpAny_isTrue_Not (then_ (ih cls env sc ρ A E s ι σ _ _ H k e e1) fun u s₁ ι₁ p k1 d1 => ?_)
  exact p.lift (After.same k1 rfl rfl rfl (by rw [show u = t from d1]))
theorem tst_bool {op : BoolOp} {es : List Expr} {pos : Pos} (ih : ∀ x ∈ es, TstOK w cf h₀ n x) : TstOK w cf h₀ n (.BoolOp op es pos) := by
  intro cls env sc ρ A E s ι σ σ' b H k e he
  rw [qt3] at he
  rw [arm_isTrue_BoolOp]
  exact tstB_sound op es s ι σ σ' b ih H k e he
theorem tst_cmp {l : Expr} {ops : List CmpOp} {cs : List Expr} {pos : Pos} (ih : EvOK w cf h₀ n l) (ihs : ∀ x ∈ cs, EvOK w cf h₀ n x) : TstOK w cf h₀ n (.Compare l ops cs pos) := by
  intro cls env sc ρ A E s ι σ σ' b H k e he
  rw [qt5] at he
  refine bind_e he fun a σ1 e1 e2 => ?_
  rw [arm_isTrue_Compare]
  refine wpAny_bind (then_ (ih cls env sc ρ A E s ι σ _ _ H k e e1) fun u s₁ ι₁ p k1 d1 => ?_)
  exact p.fin (chain_sound pos cs ops a u s₁ ι₁ σ1 σ' b ihs H k1 (p.envs H.fe k e) d1 e2).2
theorem ev_cmp {l : Expr} {ops : List CmpOp} {cs : List Expr} {pos : Pos} (ih : EvOK w cf h₀ n l) (ihs : ∀ x ∈ cs, EvOK w cf h₀ n x) : EvOK w cf h₀ n (.Compare l ops cs pos) := by
  intro cls env sc ρ A E s ι σ σ' v H k e he
  rw [q16] at he
  refine bind_e he fun a σ1 e1 e2 => ?_
  refine bind_e e2 fun c σ2 e3 e4 => ?_
  refine pure_e e4 ?_
  rw [arm_eval_Compare]
  refine wpAny_bind (then_ (ih cls env sc ρ A E s ι σ _ _ H k e e1) fun u s₁ ι₁ p k1 d1 => ?_)
  exact p.fin (chain_sound pos cs ops a u s₁ ι₁ σ1 _ c ihs H k1 (p.envs H.fe k e) d1 e3).1
theorem ev_const {c : Const} {kk : Nat} {pos : Pos} : EvOK w cf h₀ n (.Constant c kk pos) := fun _ _ _ _ _ _ _ _ _ _ _ _ k _ he => const_sound k he
theorem ev_name {x : Str} {pos : Pos} : EvOK w cf h₀ n (.Name x pos) := by
  intro cls env sc ρ A E s ι σ σ' v H k e he
  rw [q6] at he
  refine el_EA (need_iff.mp he) fun v' hv q => ?_
  cases q
  exact name_sound H.es e k hv
theorem ev_bool {op : BoolOp} {es : List Expr} {pos : Pos} (ih : ∀ x ∈ es, EvOK w cf h₀ n x) : EvOK w cf h₀ n (.BoolOp op es pos) := by
  intro cls env sc ρ A E s ι σ σ' v H k e he
  rw [q7] at he
  rw [arm_eval_BoolOp]
  exact evB_sound op pos es s ι σ σ' v ih H k e he
theorem ev_bin {l r : Expr} {op : Operator} {pos : Pos} (il : EvOK w cf h₀ n l) (ir : EvOK w cf h₀ n r) : EvOK w cf h₀ n (.BinOp l op r pos) := by
  intro cls env sc ρ A E s ι σ σ' v H k e he
  rw [q8] at he
  refine bind_e he fun a σ1 e1 e2 => ?_
  refine bind_e e2 fun b σ2 e3 e4 => ?_
  refine wpAny_BinOp (then_ (il cls env sc ρ A E s ι σ _ _ H k e e1) fun va s₁ ι₁ p k1 d1 => ?_)
  refine then_ (ir cls env sc ρ A E s₁ ι₁ σ1 _ _ H k1 (p.envs H.fe k e) e3) fun vb s₂ ι₂ p2 k2 d2 => ?_
  exact wpAny_mono (binV_sound k2 (p2.den d1) d2 e4) (fun _ _ q => p.lift (p2.lift q)) fun _ _ z => z
theorem ev_unary {x : Expr} {op : UnaryOp} {pos : Pos} (ih : EvOK w cf h₀ n x) : EvOK w cf h₀ n (.UnaryOp op x pos) := by
  intro cls env sc ρ A E s ι σ σ' v H k e he
  rw [q9] at he
  refine bind_e he fun a σ1 e1 e2 => ?_
  refine wpAny_UnaryOp (then_ (ih cls env sc ρ A E s ι σ _ _ H k e e1) fun va s₁ ι₁ p k1 d1 => ?_)
  cases op <;> dsimp only at e2
  case Not =>
    refine bind_e e2 fun t σ2 e3 e4 => ?_
    obtain ⟨rfl, rfl⟩ := truth_iff e3
    refine pure_e e4 ?_
    rw [show va = .bool t from d1]
    exact not_of (wpAny_truthy_bool (p.lift (After.same k1 rfl rfl rfl rfl)))
  case USub =>
    cases a <;> dsimp only at e2
    case int i =>
      refine pure_e e2 ?_
      refine el_E d1 fun t hq1_ => ?_
      refine eq_l hq1_ ?_
      exact PySem.P.neg_int (p.lift (After.same (s' := { s₁ with toks := s₁.toks + 1 }) k1 rfl rfl rfl ⟨_, rfl⟩))
    all_goals exact (fail_iff.mp e2).elim
  all_goals exact (fail_iff.mp e2).elim
theorem ev_if {t a b : Expr} {pos : Pos} (it : TstOK w cf h₀ n t) (ia : EvOK w cf h₀ n a) (ib : EvOK w cf h₀ n b) : EvOK w cf h₀ n (.IfExp t a b pos) := by
  intro cls env sc ρ A E s ι σ σ' v H k e he
  rw [q10] at he
  refine bind_e he fun c σ1 e1 e2 => ?_
  refine wpAny_IfExp (then_ (it cls env sc ρ A E s ι σ _ _ H k e e1) fun u s₁ ι₁ p k1 d1 => ?_)
  have d1 : u = c := d1
  subst d1
  cases u with
  | true =>
    rw [if_pos rfl] at e2 ⊢
    exact p.fin (ia cls env sc ρ A E s₁ ι₁ σ1 _ _ H k1 (p.envs H.fe k e) e2)
  | false =>
    rw [if_neg Bool.false_ne_true] at e2 ⊢
    exact p.fin (ib cls env sc ρ A E s₁ ι₁ σ1 _ _ H k1 (p.envs H.fe k e) e2)
theorem ev_dict {pos : Pos} : EvOK w cf h₀ n (.Dict [] [] pos) := by
  intro cls env sc ρ A E s ι σ σ' v H k e he
  rw [q11] at he
  refine bind_e he fun l σ1 e1 e2 => ?_
  cases newObj_iff.mp e1
  refine pure_e e2 ?_
  refine wpAny_Dict_empty ?_
  have hx : ∀ b ∈ [s.heap.objs.size], s.heap.get? b = none := fun b hb => by rw [List.mem_singleton.mp hb]; exact get?_size _
  have hg : (s.heap.push { cls := .type "dict", data := .dict #[] }).get? s.heap.objs.size = some { cls := .type "dict", data := .dict #[] } := Heap.get?_push_size _ rfl
  have hk : ∀ b o, s.heap.get? b = some o → (s.heap.push { cls := .type "dict", data := .dict #[] }).get? b = some o := fun b o e => Heap.get?_push_of_some _ e
  refine ⟨rfl, rfl, [s.heap.objs.size], ⟨fun b o _ e => hk b o e, hx⟩, k.push hk (get?_size _) ⟨⟨fun _ => none, _, _, _, hg, rfl, rfl, fun x hx => by simp at hx, fun k => rfl⟩, ?_⟩, s.heap.objs.size, rfl, ?_⟩
  · intro o es ep ho hd
    rw [hg] at ho; cases ho; cases hd
    exact Nat.le_refl _
  · rw [← k.len, List.getElem?_append_right (Nat.le_refl _), Nat.sub_self]; rfl
theorem mkList_len {tr : Bool} {xs : List V} {r : V × Sg} (h : mkList tr xs σ = some r) : xs.length ≤ lim := by
  unfold mkList at h
  obtain ⟨⟨⟩, σ1, e1, _⟩ := bind_iff.mp h
  exact of_decide_eq_true (check_iff.mp e1).1
theorem ev_list {es : List Expr} {pos : Pos} (ih : ∀ x ∈ es, EvOK w cf h₀ n x) : EvOK w cf h₀ n (.List es pos) := by
  intro cls env sc ρ A E s ι σ σ' v H k e he
  rw [q13] at he
  refine bind_e he fun vs σ1 e1 e2 => ?_
  refine List_ (then_ (evs_sound es pos s ι σ _ _ ih H k e e1) fun us s₁ ι₁ p k1 d1 => ?_)
  have hl := Dens.length d1
  refine wpAny_newList (p.lift (mkList_after k1 d1 e2 rfl rfl rfl (fun b o e => Heap.get?_push_of_some _ e) (get?_size _) ⟨0, Heap.get?_push_size _ rfl⟩)) (by rw [hl]; exact Nat.le_trans (mkList_len e2) lim_line)
theorem ev_tuple {es : List Expr} {kk : Nat} {pos : Pos} (ih : ∀ x ∈ es, EvOK w cf h₀ n x) : EvOK w cf h₀ n (.Tuple es kk pos) := by
  intro cls env sc ρ A E s ι σ σ' v H k e he
  rw [q14] at he
  refine bind_e he fun vs σ1 e1 e2 => ?_
  refine check_e e2 fun hl e4 => ?_
  refine pure_e e4 ?_
  refine Tuple_ (then_ (evs_sound es pos s ι σ _ _ ih H k e e1) fun us s₁ ι₁ p k1 d1 => ?_)
  have hlen := Dens.length d1
  refine wpAny_newTuple (p.lift (After.grow k1 rfl rfl rfl (fun b o e => Heap.get?_push_of_some _ e) ⟨s₁.heap.objs.size, us, rfl, notin_fresh k1 (get?_size _), ⟨0, Heap.get?_push_size _ rfl⟩, d1.kp fun b o _ e => Heap.get?_push_of_some _ e⟩)) (by rw [hlen]; exact Nat.le_trans (of_decide_eq_true hl) lim_line)
theorem base_whole {o : Expr} (h : isSuper o = false) (attr : Str) (env : Env) (whole : Sem Value) : attributeBase o attr env whole = whole := by
  cases o with
  | Call f as ks p =>
    cases f with
    | Name id p1 =>
      cases as with
      | cons _ _ => rfl
      | nil =>
        cases ks with
        | cons _ _ => rfl
        | nil =>
          have h : (some id == some ("super" : Str)) = false := h
          have h : (id == ("super" : Str)) = false := h
          have : (id != ("super" : Str)) = true := congrArg Bool.not h
          unfold attributeBase
          dsimp only
          simp only [this, Bool.true_or, if_true]
    | _ => rfl
  | _ => rfl
end
end Mine
end
section
open PySem PySem.W PyProof.Rows PySem.Spec
set_option maxRecDepth 100000
namespace Mine
section
variable {w : World} {cf : CF} {K : Frag} {h₀ : Heap} {n : Nat}
variable {A : Around} {E : Value → Shared → Prop} {s s₁ s₂ : Shared} {cls : Cx} {ι ι₁ ι₂ : List Addr} {σ σ' σ1 σ2 : Sg} {sc : Scope} {env : Env} {ρ : Rho}
theorem ev_attr (F : Facts w cf K h₀ n) {o : Expr} {nm : Str} {pos : Pos} (ih : EvOK w cf h₀ n o) : EvOK w cf h₀ n (.Attribute o nm pos) := by
  intro cls env sc ρ A E s ι σ σ' v H k e he
  cases hs : isSuper o with
  | true => rw [q17, if_pos hs] at he; exact (fail_iff.mp he).elim
  | false =>
    rw [q17f hs] at he
    refine bind_e he fun a σ1 e1 e2 => ?_
    rw [arm_eval_Attribute, base_whole hs]
    refine wpAny_bind (then_ (ih cls env sc ρ A E s ι σ _ _ H k e e1) fun va s₁ ι₁ p k1 d1 => ?_)
    refine wpAny_bind (wpAny_standAt (wpAny_bind (wpAny_holding (then_ (attrV_sound F.X (F.KC cls H.cm) k1 d1 e2) fun u s₂ ι₂ p2 k2 d2 => ?_))))
    exact wpAny_bind (wpAny_letTemporaryGo (wpAny_pure (p.lift (p2.lift (After.same k2 rfl rfl rfl d2)))))
theorem evSub_eq {o i : Expr} {pos : Pos} (h : isSlice i = false) : ev P cf sc ρ (.Subscript o i pos) = (do
    let v ← ev P cf sc ρ o
    let k ← ev P cf sc ρ i
    idxV v k) := by
  exact q21f h
theorem ev_sub {o i : Expr} {pos : Pos} (hi : isSlice i = false) (io : EvOK w cf h₀ n o) (ii : EvOK w cf h₀ n i) : EvOK w cf h₀ n (.Subscript o i pos) := by
  intro cls env sc ρ A E s ι σ σ' v H k e he
  rw [evSub_eq hi] at he
  refine bind_e he fun a σ1 e1 e2 => ?_
  refine bind_e e2 fun b σ2 e3 e4 => ?_
  refine Subscript_ (then_ (io cls env sc ρ A E s ι σ _ _ H k e e1) fun va s₁ ι₁ p k1 d1 => ?_)
  refine then_ (ii cls env sc ρ A E s₁ ι₁ σ1 _ _ H k1 (p.envs H.fe k e) e3) fun vb s₂ ι₂ p2 k2 d2 => ?_
  exact wpAny_mono (idxV_sound hi k2 (p2.den d1) d2 e4) (fun _ _ q => p.lift (p2.lift q)) fun _ _ z => z
theorem grow_path {o : Obj} : Path ι s ι { s with heap := s.heap.push o } := ⟨rfl, rfl, [], by rw [List.append_nil], ⟨fun b ob _ e => Heap.get?_push_of_some _ e, fun _ q => (List.not_mem_nil q).elim⟩⟩
theorem ev_slice_to {o h : Expr} {pos p1 : Pos} (io : EvOK w cf h₀ n o) (ii : EvOK w cf h₀ n h) : EvOK w cf h₀ n (.Subscript o (.Slice none (some h) none p1) pos) := by
  intro cls env sc ρ A E s ι σ σ' v H k e he
  rw [q18] at he
  refine bind_e he fun a σ1 e1 e2 => ?_
  refine bind_e e2 fun b σ2 e3 e4 => ?_
  refine Subscript_ (then_ (io cls env sc ρ A E s ι σ _ _ H k e e1) fun va s₁ ι₁ p k1 d1 => ?_)
  refine wpAny_Slice ?_
  rw [evalPart_none]
  refine wpAny_pure ?_
  rw [evalPart_some]
  refine then_ (ii cls env sc ρ A E s₁ ι₁ σ1 _ _ H k1 (p.envs H.fe k e) e3) fun vb s₂ ι₂ p2 k2 d2 => ?_
  refine wpAny_pure ?_
  have k3 : Ok cls h₀ (s₂.heap.push { cls := .type "slice", data := .fields #[.none, vb, .none] }) ι₂ σ2 := k2.grow fun b o e => Heap.get?_push_of_some _ e
  refine wpAny_mono (sliceV_sound (s := { s₂ with heap := s₂.heap.push { cls := .type "slice", data := .fields #[.none, vb, .none] } }) k3 (grow_path.den (p2.den d1)) e4 ⟨_, Heap.get?_push_size _ rfl, rfl, rfl⟩ (.inl ⟨rfl, rfl⟩) (.inr ⟨_, rfl, grow_path.den d2⟩)) (fun _ _ q => p.lift (p2.lift (grow_path.lift q))) fun _ _ z => z
theorem ev_slice_from {o l : Expr} {pos p1 : Pos} (io : EvOK w cf h₀ n o) (ii : EvOK w cf h₀ n l) : EvOK w cf h₀ n (.Subscript o (.Slice (some l) none none p1) pos) := by
  intro cls env sc ρ A E s ι σ σ' v H k e he
  rw [q19] at he
  refine bind_e he fun a σ1 e1 e2 => ?_
  refine bind_e e2 fun b σ2 e3 e4 => ?_
  refine Subscript_ (then_ (io cls env sc ρ A E s ι σ _ _ H k e e1) fun va s₁ ι₁ p k1 d1 => ?_)
  refine wpAny_Slice ?_
  rw [evalPart_some]
  refine then_ (ii cls env sc ρ A E s₁ ι₁ σ1 _ _ H k1 (p.envs H.fe k e) e3) fun vb s₂ ι₂ p2 k2 d2 => ?_
  rw [evalPart_none]
  refine wpAny_pure (wpAny_pure ?_)
  have k3 : Ok cls h₀ (s₂.heap.push { cls := .type "slice", data := .fields #[vb, .none, .none] }) ι₂ σ2 := k2.grow fun b o e => Heap.get?_push_of_some _ e
  refine wpAny_mono (sliceV_sound (s := { s₂ with heap := s₂.heap.push { cls := .type "slice", data := .fields #[vb, .none, .none] } }) k3 (grow_path.den (p2.den d1)) e4 ⟨_, Heap.get?_push_size _ rfl, rfl, rfl⟩ (.inr ⟨_, rfl, grow_path.den d2⟩) (.inl ⟨rfl, rfl⟩)) (fun _ _ q => p.lift (p2.lift (grow_path.lift q))) fun _ _ z => z
theorem few_form {args : List Expr} {pos : Pos} (hn : noStar args = true) (hl : args.length < 29) : methodCallForm (args.length + ([] : List Keyword).length) (backTo pos (starEach args env)) (backToKw pos (keywordEach [] env)) = true := by
  have h1 := star_plain pos env hn
  have : (backTo pos (starEach args env)).all (fun x => !x.1) = true := by
    rw [List.any_eq_false] at h1
    rw [List.all_eq_true]
    intro x hx
    simpa using h1 x hx
  unfold methodCallForm
  rw [this]
  have e1 : (backToKw pos (keywordEach [] env)).all (fun x => x.1.isSome) = true := rfl
  have e2 : (backToKw pos (keywordEach [] env)).isEmpty = true := rfl
  rw [e1, e2]
  simp
  exact lin [_] (.h 1 1 (.v 0) (.c 29) (.g 1 1 (.v 0) (.c 30))) rfl hl
theorem call_sound (F : Facts w cf K h₀ n) {key : Key} {args : List V} {v : V} (e : cf key args σ = some (v, σ')) : ∃ f, KeyAt K cm key f ∧ isFn K (.ref f) = true ∧ keepIn K (.ref f) = true ∧
    ∀ (cls : Cx) A E (s : Shared) ι vals, cls.c = cm → Room n A → Ok cls h₀ s.heap ι σ → Dens cls s.heap ι args vals → wpAny (model prog w) A (call (.ref f) vals) (Ret cls h₀ ι s σ' v) E s := by
  refine el_EAAA (F.C key args σ v σ' e) fun f h1 h2 h3 h4 => ?_
  exact in_EAAA f h1 h2 h3 (fun cls A E s ι vals a b c d => wpAny_call (h4 cls A E s ι vals a b c d))
theorem ev_meth (F : Facts w cf K h₀ n) {o : Expr} {nm : Str} {apos pos : Pos} {args : List Expr} (io : EvOK w cf h₀ n o) (ia : ∀ x ∈ args, EvOK w cf h₀ n x) : EvOK w cf h₀ n (.Call (.Attribute o nm apos) args [] pos) := by
  intro cls env sc ρ A E s ι σ σ' v H k e he
  cases hs : isSuper o with
  | true => rw [q22, if_pos hs] at he; exact (fail_iff.mp he).elim
  | false =>
    rw [q22f hs] at he
    refine bind_e he fun a σ1 e1 e2 => ?_
    refine check_e e2 fun hc e4 => ?_
    simp only [Bool.and_eq_true, decide_eq_true_eq] at hc
    obtain ⟨hline, hlen⟩ := hc
    obtain ⟨⟨⟩, σ3, e5, e6⟩ := bind_iff.mp e4
    refine bind_e e6 fun vs σ4 e7 e8 => ?_
    have hn := evs_noStar e7
    rw [arm_eval_Call, base_whole hs]
    refine wpAny_bind (then_ (io cls env sc ρ A E s ι σ _ _ H k e e1) fun va s₁ ι₁ p k1 d1 => ?_)
    refine wpAny_bind (wpAny_standAt ?_)
    have hform := few_form (env := env) (pos := pos) hn hlen
    have hpos : methodCallPos true o env apos pos = pure pos := by unfold methodCallPos; simp [hline]
    unfold methodCall
    rw [hform]
    have fin : ∀ {f : Value}, (σ3 = σ1) → (∀ us s₂ ι₂, Path ι₁ s₁ ι₂ s₂ → Ok cls h₀ s₂.heap ι₂ σ4 → Dens cls s₂.heap ι₂ vs us → wpAny (model prog w) A (call f (va :: us)) (Ret cls h₀ ι₂ s₂ σ' v) E s₂) →
        (∀ {Q : Value → Shared → Prop}, wpAny (model prog w) A (spliced (backTo pos (starEach args env))) (fun us s₂ => K.In s₂.heap ∧ wpAny (model prog w) A (call f ([va] ++ us)) Q E s₂) E s₁ → wpAny (model prog w) A (callWith pos f [va] (backTo pos (starEach args env)) []) Q E s₁) →
        wpAny (model prog w) A (methodCallPos true o env apos pos >>= fun callPos => callWith callPos f [va] (backTo pos (starEach args env)) (backToKw pos (keywordEach [] env))) (Ret cls h₀ ι s σ' v) E s₁ := fun {f} hσ hcall hw => by
      subst hσ
      refine wpAny_bind (wpAny_of_eq hpos ?_)
      show wpAny _ _ (callWith pos f [va] (backTo pos (starEach args env)) []) _ _ _
      refine hw (then_ (evs_sound args pos s₁ ι₁ σ3 _ _ ia H k1 (p.envs H.fe k e) e7) fun us s₂ ι₂ p2 k2 d2 => ⟨F.X.keeps k2.stay, ?_⟩)
      exact wpAny_mono (hcall us s₂ ι₂ p2 k2 d2) (fun _ _ q => p.lift (p2.lift q)) fun _ _ z => z
    show wpAny _ _ (holding [va] (getMethod va nm _) >>= _) _ _ _
    refine wpAny_bind (wpAny_holding ?_)
    by_cases hi : ∃ c l, a = .inst c l
    · obtain ⟨c, l, rfl⟩ := hi
      dsimp only at e8
      refine el_EAAA (call_sound F e8) fun f hkey hfn hkeep hcall => ?_
      refine el_EA hkey fun C hC hfind => ?_
      refine getFields_e e5 fun fs hob e10 => ?_
      obtain ⟨hnone, q⟩ := check_iff.mp e10
      cases q
      refine methI_sound F.X (F.KC cls H.cm) k1 d1 (by rw [H.cm]; exact hC) hfind hfn ⟨fs, hob, by simpa using hnone⟩ ?_
      refine fin rfl (fun us s₂ ι₂ p2 k2 d2 => ?_) (fun h => call_K hkeep hn h)
      exact hcall cls A E s₂ ι₂ (va :: us) H.cm H.rm.room k2 ⟨va, us, rfl, p2.den d1, d2⟩
    · have e8' : callL nm a vs σ4 = some (v, σ') := by
        cases a with
        | inst c l => exact absurd ⟨c, l, rfl⟩ hi
        | _ => exact e8
      refine methL_sound k1 d1 (fun c l q => hi ⟨c, l, q⟩) e5 fun hσ => ?_
      refine fin hσ (fun us s₂ ι₂ p2 k2 d2 => callL_sound k2 (p2.den d1) d2 e8') (fun h => call_built hn (wpAny_mono h (fun _ _ q => q.2) fun _ _ z => z))
theorem bval_bvalue {f : Str} (h : builtinsCalled.contains f = true) : f ∈ bnames ∧ bvalue f = bval f := by
  simp only [builtinsCalled, List.contains_eq_mem, List.mem_cons, List.not_mem_nil, or_false, decide_eq_true_eq] at h
  rcases h with rfl | rfl | rfl | rfl | rfl | rfl | rfl <;> exact ⟨by simp [bnames], by decide⟩
theorem ev_call (F : Facts w cf K h₀ n) {f : Str} {p1 pos : Pos} {args : List Expr} (ia : ∀ x ∈ args, EvOK w cf h₀ n x) {vs : List V} {v : V} (H : Here n cls sc env A) (k : Ok cls h₀ s.heap ι σ) (e : EnvOK cls s.heap ι sc env ρ)
    (e1 : evs P cf sc ρ args σ = some (vs, σ1)) (e2 : callN P cf sc f vs σ1 = some (v, σ')) : wpAny (model prog w) A (eval (.Call (.Name f p1) args [] pos) env) (Ret cls h₀ ι s σ' v) E s := by
  have hn := evs_noStar e1
  unfold callN at e2
  refine check_e e2 fun hg e4 => ?_
  refine Call_Name rfl ?_
  split at e4
  · rename_i hb
    obtain ⟨h1, h2⟩ := bval_bvalue hb
    refine glob_builtin F H.es k hg h1 ?_
    rw [h2]
    refine call_bval hn (then_ (evs_sound args pos s ι σ _ _ ia H k e e1) fun us s₂ ι₂ p2 k2 d2 => ?_)
    exact wpAny_mono (callB_sound H.rm.room k2 d2 e4) (fun _ _ q => p2.lift q) fun _ _ z => z
  · split at e4
    · rename_i hcl
      refine el_EAAA (F.N f hcl) fun C hC hns hkeep hmake => ?_
      refine bind_e e4 fun l σ3 e5 e6 => ?_
      cases newObj_iff.mp e5
      refine bind_e e6 fun r σ4 e7 e8 => ?_
      cases r with
      | none =>
        refine pure_e e8 ?_
        refine el_EAAA (F.C _ _ _ _ _ e7) fun fi hkey hfn _ hcall => ?_
        refine el_EA hkey fun C' hC' hfind => ?_
        rw [hC] at hC'; cases hC'
        refine glob_name F H.es k hg hns ?_
        refine call_K hkeep hn (then_ (evs_sound args pos s ι σ _ _ ia H k e e1) fun us s₂ ι₂ p2 k2 d2 => ⟨F.X.keeps k2.stay, ?_⟩)
        refine wpAny_call ?_
        refine hmake fi hfind hfn A E s₂ ([] ++ us) _ (F.X.keeps k2.stay) H.rm fun h' obj dx B g1 g2 g3 io hN hz hk hB => ?_
        have hx : ∀ b ∈ [dx], s₂.heap.get? b = none := fun b hb => by rw [List.mem_singleton.mp hb]; exact g2
        have k3 : Ok cls h₀ h' (ι₂ ++ [dx]) (σ1 ++ [MObj.fields []]) := k2.push hk g2 ⟨hz, _, hN, fun nm => rfl⟩
        have pth : Path ι₂ s₂ (ι₂ ++ [dx]) { s₂ with heap := h' } := ⟨rfl, rfl, [dx], rfl, ⟨fun b o _ q => hk b o q, hx⟩⟩
        have dobj : Den cls h' (ι₂ ++ [dx]) (.inst f σ1.length) (.ref obj) := by
          refine in_EEEAAAA obj C dx rfl ⟨fun q => ?_, fun q => ?_⟩ (by rw [H.cm]; exact hC) io ?_
          · rcases List.mem_append.mp q with q | q
            · obtain ⟨o, z⟩ := k2.has q; rw [g1] at z; cases z
            · exact g3 (List.mem_singleton.mp q)
          · obtain ⟨⟨o, z⟩, _⟩ := k2.exs obj q; rw [g1] at z; cases z
          · rw [← k2.len, List.getElem?_append_right (Nat.le_refl _), Nat.sub_self]; rfl
        refine codeAny_mono (hcall cls B E { s₂ with heap := h' } (ι₂ ++ [dx]) (.ref obj :: ([] ++ us)) H.cm hB k3 ⟨_, _, rfl, dobj, pth.dens d2⟩) fun r s₃ hr => ?_
        match r, hr with
        | .error _, hr => exact hr
        | .ok (.ret rv), hr =>
          refine hr.elim fun g o ext st k4 d4 => ?_
          have p3 : Path (ι₂ ++ [dx]) { s₂ with heap := h' } ((ι₂ ++ [dx]) ++ ext) s₃ := ⟨g, o, ext, rfl, st⟩
          exact ⟨d4, p2.lift (pth.lift (p3.lift (After.same k4 rfl rfl rfl (p3.den dobj))))⟩
      | _ => exact (fail_iff.mp e8).elim
    · refine el_EAAA (call_sound F e4) fun fi hkey _ hkeep hcall => ?_
      refine glob_name F H.es k hg hkey ?_
      refine call_K hkeep hn (then_ (evs_sound args pos s ι σ _ _ ia H k e e1) fun us s₂ ι₂ p2 k2 d2 => ⟨F.X.keeps k2.stay, ?_⟩)
      exact wpAny_mono (hcall cls A E s₂ ι₂ ([] ++ us) H.cm H.rm.room k2 d2) (fun _ _ q => p2.lift q) fun _ _ z => z
theorem within_shape {g : Str} {m : Nat} {args : List Expr} (h : calledWithin sc g m args = true) : ∃ p3 as p2, args = [.Call (.Name g p3) as [] p2] ∧ as.length = m ∧ isGlob sc g = true := by
  cases args with
  | nil => exact (Bool.false_ne_true h).elim
  | cons a r =>
    delta calledWithin at h
    dsimp only at h
    cases q : ew a with
    | call f as ks =>
      rw [q] at h
      refine el_A (Bool.and_eq_true_iff.mp h) fun h1 h => ?_
      refine el_A (Bool.and_eq_true_iff.mp h) fun h2 h => ?_
      refine el_A (Bool.and_eq_true_iff.mp h) fun h h5 => ?_
      refine el_A (Bool.and_eq_true_iff.mp h) fun h3 h4 => ?_
      refine el_E (nameOf_e (eq_of_beq h3)) fun p3 hf => ?_
      refine el_E (show ∃ p, a = .Call f as ks p from ew_e q) fun p2 ha => ?_
      refine eq_l ha (eq_l hf (eq_l (List.isEmpty_iff.mp h1) (eq_l (List.isEmpty_iff.mp h2) ?_)))
      exact in_EEEAA p3 as p2 rfl (eq_of_beq h4) h5
    | _ => rw [q] at h; exact (Bool.false_ne_true h).elim
theorem ev_named (F : Facts w cf K h₀ n) {f : Str} {p1 pos : Pos} {args : List Expr} (ia : ∀ x ∈ args, EvOK w cf h₀ n x) (iaa : ∀ func as kws p2, args = [.Call func as kws p2] → ∀ x ∈ as, EvOK w cf h₀ n x) : EvOK w cf h₀ n (.Call (.Name f p1) args [] pos) := by
  intro cls env sc ρ A E s ι σ σ' v H k e he
  have general : (do
      let vs ← evs P cf sc ρ args
      callN P cf sc f vs) σ = some (v, σ') → wpAny (model prog w) A (eval (.Call (.Name f p1) args [] pos) env) (Ret cls h₀ ι s σ' v) E s := fun q => by
    refine bind_e q fun vs σ1 e1 e2 => ?_
    exact ev_call F ia H k e e1 e2
  cases hz : (f == ("tuple" : Str) && calledWithin sc ("zip" : Str) 2 args) with
  | true =>
    have hz' := Bool.and_eq_true_iff.mp hz
    have hf : f = ("tuple" : Str) := eq_of_beq hz'.1
    obtain ⟨p3, as, p2, ha, hl, hg2⟩ := within_shape hz'.2
    clear hz'
    subst hf
    subst ha
    match as, hl with
    | [a, b], _ =>
    rw [q23 hz] at he
    refine check_e he fun hg e4 => ?_
    refine bind_e e4 fun x σ3 e5 e6 => ?_
    refine bind_e e6 fun y σ4 e7 e8 => ?_
    have hia := iaa _ [a, b] [] p2 rfl
    refine Call_Name rfl (glob_builtin F H.es k hg (by simp [bnames]) ?_)
    show wpAny _ _ (callWith pos (.type "tuple") [] _ []) _ _ _
    refine call_type rfl (spliced_more ?_ rfl)
    have hes : evs P cf sc ρ [a, b] σ = some ([x, y], σ4) := by
      rw [qs2, qs2, qs1]
      refine bind_iff.mpr ⟨x, σ3, e5, bind_iff.mpr ⟨[y], σ4, bind_iff.mpr ⟨y, σ4, e7, bind_iff.mpr ⟨[], σ4, pure_iff.mpr rfl, pure_iff.mpr rfl⟩⟩, pure_iff.mpr rfl⟩⟩
    have hn := evs_noStar hes
    refine Call_Name rfl (glob_builtin F H.es k hg2 (by simp [bnames]) ?_)
    show wpAny _ _ (callWith p2 (.type "zip") [] _ []) _ _ _
    refine call_type hn (then_ (evs_sound [a, b] p2 s ι σ _ _ hia H k e hes) fun us s₂ ι₂ pp k2 d2 => ?_)
    refine el_EEAAEE d2 fun u1 r1 hq2_ da u2 r2 hr1_ => ?_
    refine el_AA hr1_ fun hq6_ db hq8_ => ?_
    refine eq_l hq2_ ?_
    refine eq_l hq6_ ?_
    refine eq_l hq8_ ?_
    refine wpAny_mono (zipV_sound (E := E) H.rm.room k2 da db e8) (fun z s₃ q => ?_) fun _ _ z => z
    exact spliced_none (wpAny_mono q (fun _ _ q => pp.lift q) fun _ _ z => z)
  | false =>
  cases hz2 : (f == ("sorted" : Str) && calledWithin sc ("set" : Str) 1 args) with
  | false =>
    rw [q25f hz hz2] at he
    exact general he
  | true =>
    have hz' := Bool.and_eq_true_iff.mp hz2
    have hf : f = ("sorted" : Str) := eq_of_beq hz'.1
    obtain ⟨p3, as, p2, ha, hl, hg2⟩ := within_shape hz'.2
    clear hz'
    subst hf
    subst ha
    match as, hl with
    | [a], _ =>
      rw [q24 hz hz2] at he
      refine check_e he fun hg e4 => ?_
      refine bind_e e4 fun x σ3 e5 e6 => ?_
      have hia := iaa _ [a] [] p2 rfl
      refine Call_Name rfl (glob_builtin F H.es k hg (by simp [bnames]) ?_)
      show wpAny _ _ (callWith pos (.builtin "sorted") [] _ []) _ _ _
      refine call_built (first := []) rfl (spliced_more ?_ rfl)
      have hes : evs P cf sc ρ [a] σ = some ([x], σ3) := by
        rw [qs2, qs1]
        exact bind_iff.mpr ⟨x, σ3, e5, bind_iff.mpr ⟨[], σ3, pure_iff.mpr rfl, pure_iff.mpr rfl⟩⟩
      have hn := evs_noStar hes
      refine Call_Name rfl (glob_builtin F H.es k hg2 (by simp [bnames]) ?_)
      show wpAny _ _ (callWith p2 (.type "set") [] _ []) _ _ _
      refine call_type hn (then_ (evs_sound [a] p2 s ι σ _ _ hia H k e hes) fun us s₂ ι₂ pp k2 d2 => ?_)
      refine el_EEAA d2 fun u1 r1 hq2_ da hq4_ => ?_
      refine eq_l hq2_ ?_
      refine eq_l hq4_ ?_
      refine wpAny_mono (sortedSetV_sound (E := E) H.rm.room k2 da e6) (fun z s₃ q => ?_) fun _ _ z => z
      exact spliced_none (wpAny_mono q (fun _ _ q => pp.lift q) fun _ _ z => z)
end
end Mine
end
section
open PySem PySem.W PyProof.Rows PySem.Spec
set_option maxRecDepth 100000
namespace Mine
noncomputable def emitF (P : Prm) (cf : CF) (scope : Scope) (elt : Expr) : List V × Rho → M (List V × Rho) := fun p => do
  let v ← ev P cf scope p.2 elt
  check (decide (p.1.length < lim))
  pure (p.1 ++ [v], p.2)
section
variable {w : World} {cf : CF} {K : Frag} {h₀ : Heap} {n : Nat}
variable {A : Around} {E : Value → Shared → Prop} {s s₁ s₂ : Shared} {cls : Cx} {ι ι₁ ι₂ : List Addr} {σ σ' σ1 σ2 : Sg} {sc : Scope} {env : Env} {ρ : Rho}
theorem Here.plus {p : Addr → Prop} (H : Here n cls sc env A) : Here n (cls.plus p) sc env A := ⟨H.rm, H.cm, H.fe.plus, H.es⟩
theorem piece_sound {elt : Expr} {gens : List Comprehension} {scope : Scope} {pos : Pos} {ρ0 : Rho} (ielt : EvOK w cf h₀ n elt) : ∀ (gs : List Comprehension) (d : Nat), gens.drop (d + 1) = gs → (∀ g ∈ gs, g.is_async = 0 → EvOK w cf h₀ n g.iter ∧ ∀ f ∈ g.ifs, TstOK w cf h₀ n f) → (∀ g ∈ gs, g.is_async = 0) →
    ∀ (cls : Cx) (cenv : Env) (D : Addr) (p : List V × Rho) (σ1 : Sg) (p' : List V × Rho) (σ2 : Sg) (s : Shared) (ι : List Addr) (E : Value → Shared → Prop) (k : Sem Fin) (Qk : Fin → Shared → Prop), Here n cls scope cenv A → cls.ex D → D ≠ cenv.locals → (∀ x, cenv.cells.lookup x ≠ some D) →
      Ok cls h₀ s.heap ι σ1 → EnvOK cls s.heap ι scope cenv p.2 → DAt cls D p.1 s.heap ι → evG P cf sc ρ0 scope (emitF P cf scope elt) gs false p σ1 = some (p', σ2) →
      (∀ s', AfterO (OwnC scope cenv D) cls h₀ ι s σ2 (fun h ι' => EnvOK cls h ι' scope cenv p'.2 ∧ DAt cls D p'.1 h ι') s' → wpAny (model prog w) A k Qk E s') →
      wpAny (model prog w) A (cPiece elt gens scope pos d (.ref D) cenv k) Qk E s
  | [], d, hd, _, _, cls, cenv, D, p, σ1, p', σ2, s, ι, E, k, Qk, H, hD, hDL, hDC, ok, e, da, he, hk => by
    have hg : gens[d + 1]? = none := by
      have : (gens.drop (d + 1))[0]? = none := by rw [hd]; rfl
      rw [List.getElem?_drop] at this
      simpa using this
    unfold cPiece
    rw [hg]
    dsimp only
    rw [qG1] at he
    unfold emitF at he
    refine bind_e he fun v σa e1 e2 => ?_
    refine check_e e2 fun hl e4 => ?_
    cases pure_iff.mp e4
    refine wpAny_bind (wpAny_bind (then_ (ielt cls cenv scope p.2 A E s ι σ1 _ _ H ok e e1) fun u s₁ ι₁ pth k1 d1 => ?_))
    obtain ⟨ext, rfl, st⟩ := pth.ex
    have da1 : DAt cls D p.1 s₁.heap (ι ++ ext) := da.step (own := fun _ => False) st.o (fun _ z => z.elim) (ok.exs D hD).2.1 (fun z => z)
    have en1 := pth.envs H.fe ok e
    obtain ⟨us, c, eD, ds⟩ := da1
    have hlen := Dens.length ds
    have hl' := of_decide_eq_true hl
    refine wpAny_bind (wpAny_list_append_plain (items := us.toArray) ⟨c, eD⟩ (fun h' hp hs => ?_) (by rw [List.size_toArray, hlen]; exact Nat.le_of_lt (Nat.lt_of_lt_of_le hl' lim_line)))
    refine wpAny_pure (hk _ ?_)
    obtain ⟨m, hp⟩ := hp
    refine ⟨pth.gens, pth.os, ext, ⟨fun b o hb hn q => (hs.2 b fun z => hn (.inr z)).trans (st.keep b o hb q), st.fresh⟩, k1.exch hD hs ⟨_, hp⟩, en1.other hD hs hDL hDC, us ++ [u], m, by rw [hp]; simp, ?_⟩
    exact Dens.kx (kx_sameBut hD hs) _ _ (Dens.append ds (Dens.one d1))
  | ⟨t, iter, ifs, asy⟩ :: rest, d, hd, ih, hasy, cls, cenv, D, p, σ1, p', σ2, s, ι, E, k, Qk, H, hD, hDL, hDC, ok, e, da, he, hk => by
    have h0 : asy = 0 := hasy _ List.mem_cons_self
    subst h0
    obtain ⟨iiter, iifs⟩ := ih _ List.mem_cons_self rfl
    have hg : gens[d + 1]? = some ⟨t, iter, ifs, 0⟩ := by
      have : (gens.drop (d + 1))[0]? = some ⟨t, iter, ifs, 0⟩ := by rw [hd]; rfl
      rw [List.getElem?_drop] at this
      simpa using this
    have hd2 : gens.drop (d + 1 + 1) = rest := by
      rw [← List.drop_drop, hd]; rfl
    have hg2 : ∀ g', gens[d + 1 + 1]? = some g' → g'.is_async = 0 := fun g' q => by
      have : (gens.drop (d + 1 + 1))[0]? = some g' := by rw [List.getElem?_drop]; simpa using q
      rw [hd2] at this
      exact hasy g' (List.mem_cons_of_mem _ (List.mem_of_getElem? this))
    unfold cPiece
    rw [hg]
    dsimp only
    rw [qG2] at he
    refine check_e he fun _ e0' => ?_
    refine bind_e e0' fun x σa e1 e2 => ?_
    rw [if_neg Bool.false_ne_true] at e1
    refine el_EEA (bind_iff.mp e2) fun hn0_ σb e3 e4 => ?_
    obtain ⟨xs, tk⟩ := hn0_
    refine wpAny_bind (then_ (iiter cls cenv scope p.2 A E s ι σ1 _ _ H ok e e1) fun u s₁ ι₁ pth k1 d1 => ?_)
    obtain ⟨ext, rfl, st⟩ := pth.ex
    have da1 : DAt cls D p.1 s₁.heap (ι ++ ext) := da.step (own := fun _ => False) st.o (fun _ z => z.elim) (ok.exs D hD).2.1 (fun z => z)
    have en1 := pth.envs H.fe ok e
    refine wpAny_bind (wpAny_standAt (wpAny_bind (wpAny_of_eq (not_set (env := cenv) e1 u) ?_)))
    have hown : ∀ a, OwnC scope cenv D a → cls.ex a := fun a q => q.elim (fun z => z.ex H.fe) fun z => z ▸ hD
    refine wpAny_bind (wpAny_holding (wpAny_mono (clause_sound (pos := pos) (elt := elt) (gens := gens) (cf := cf) (sc := sc) (ρ0 := ρ0) (emit := emitF P cf scope elt) (rest := rest) (p' := p') (σ2 := σ2)
      (R := fun r s' => match r with | .ok _ => wpAny (model prog w) A k Qk E s' | .error x => cameBackBy (model prog w) A cenv E x s')
      hg hg2 H.rm.hd H.fe H.es hD hDL hDC (fun v q => rfl)
      (fun I ρ σ1 b σ2 s ι E k e q => tstAll_sound ifs s ι σ1 σ2 b iifs H.plus k e q)
      (fun I p σ1 p' σ2 s ι E kk Qk k e da q hk => piece_sound ielt rest (d + 1) hd2 (fun g hg => ih g (List.mem_cons_of_mem _ hg)) (fun g hg => hasy g (List.mem_cons_of_mem _ hg)) (cls.plus (only I)) cenv D p σ1 p' σ2 s ι E kk Qk H.plus (.inl hD) hDL hDC k e da q hk)
      k1 en1 da1 d1 e3 e4 (fun s' a => ?_)) (fun it s' hc => ?_) fun _ _ z => z))
    · exact hk s' (AfterO.trans hown pth.gens pth.os st.o a)
    · refine wpAny_bind (wpAny_runOwn (h := none) ?_)
      rw [Around.mark_none]
      refine codeAny_mono hc fun r s'' hr => ?_
      cases r with
      | ok f => exact hr
      | error x => exact hr
end
end Mine
end
section
open PySem PySem.W PyProof.Rows PySem.Spec
set_option maxRecDepth 100000
namespace Mine
section
variable {w : World} {cf : CF} {K : Frag} {h₀ : Heap} {n : Nat}
variable {A : Around} {E : Value → Shared → Prop} {s s₁ s₂ : Shared} {cls : Cx} {ι ι₁ ι₂ : List Addr} {σ σ' σ1 σ2 : Sg} {sc : Scope} {env : Env} {ρ : Rho}
theorem ev_comp_eq {elt : Expr} {gens : List Comprehension} {scope : Scope} {pos : Pos} {v : V} (he : ev P cf sc ρ (.ListComp elt gens scope pos) σ = some (v, σ')) :
    scopeOk scope = true ∧ freesOk sc scope = true ∧ (∀ g ∈ gens, g.is_async = 0) ∧ ∃ t iter ifs rest x σa xs tk σb r σc, gens = ⟨t, iter, ifs, 0⟩ :: rest ∧ ev P cf sc ρ iter σ = some (x, σa) ∧ walkV x σa = some ((xs, tk), σb) ∧
      compM (still xs tk) (fun v q => do let ρ' ← asgT scope t v q.2; let ok ← tstAll P cf scope ρ' ifs; if ok then evG P cf sc ρ scope (emitF P cf scope elt) rest false (q.1, ρ') else pure (q.1, ρ')) xs ([], compRho scope ρ) σb = some (r, σc) ∧ mkList (P.tr pos) r.1 σc = some (v, σ') := by
  rw [q15] at he
  refine check_e he fun hc e2 => ?_
  simp only [Bool.and_eq_true, Bool.not_eq_true'] at hc
  obtain ⟨⟨⟨h1, h2⟩, h3⟩, h4⟩ := hc
  refine bind_e e2 fun r σc e3 e4 => ?_
  have hasy : ∀ g ∈ gens, g.is_async = 0 := fun g hg => by
    have := List.all_eq_true.mp h4 g hg
    simpa using this
  refine in_AAA h1 h2 hasy ?_
  match gens, h3, hasy, e3 with
  | [], h3, _, _ => simp at h3
  | ⟨t, iter, ifs, asy⟩ :: rest, _, hasy, e3 =>
    have : asy = 0 := hasy _ List.mem_cons_self
    refine eq_l this ?_
    rw [qG2] at e3
    refine check_e e3 fun _ e6 => ?_
    refine bind_e e6 fun x σa e7 e8 => ?_
    rw [if_pos rfl] at e7
    refine el_EEA (bind_iff.mp e8) fun hn0_ σb e9 e10 => ?_
    obtain ⟨xs, tk⟩ := hn0_
    exact in_EEEEEE t iter ifs rest x σa (in_EEEEEA xs tk σb r σc rfl (in_AAA e7 e9 e10 e4))
theorem comp_use {use : Option (Value → Sem Unit)} {elt : Expr} {gens : List Comprehension} {scope : Scope} {pos : Pos} {v : V} {Q : Value → Shared → Prop} (ielt : EvOK w cf h₀ n elt) (ih : ∀ g ∈ gens, g.is_async = 0 → EvOK w cf h₀ n g.iter ∧ ∀ f ∈ g.ifs, TstOK w cf h₀ n f)
    (H : Here n cls sc env A) (k : Ok cls h₀ s.heap ι σ) (e : EnvOK cls s.heap ι sc env ρ) (he : ev P cf sc ρ (.ListComp elt gens scope pos) σ = some (v, σ'))
    (hQ : ∀ (s₁ s₅ : Shared) (ι₁ : List Addr) (σa : Sg) (C D : Addr), Path ι s ι₁ s₁ → Ok cls h₀ s₁.heap ι₁ σa → s₁.heap.get? C = none → ¬ cls.ex C → (∃ m, s₅.heap.Ns C m) → After (cls.plus (only C)) h₀ ι₁ s₁ σ' (fun h ι' => Den (cls.plus (only C)) h ι' v (.ref D)) s₅ →
      compPost (model prog w) A E use Q (.ref D) C (.ok .next) s₅) :
    wpAny (model prog w) A (comprehension (.ListComp elt gens scope pos) scope env (firstIterPos gens pos) (newList []) (firstAsync gens) (firstIter gens env) use) Q E s := by
  obtain ⟨hs, hf, hasy, t, iter, ifs, rest, x, σa, xs, tk, σb, r, σc, rfl, e1, e2, e3, e4⟩ := ev_comp_eq he
  obtain ⟨iiter, iifs⟩ := ih _ List.mem_cons_self rfl
  refine comp_go (cf := cf) (ρ := ρ) (emit := emitF P cf scope elt) (r := r) (σc := σc) (fun g' q => hasy g' (List.mem_cons_of_mem _ (List.mem_of_getElem? q))) H.rm.hd H.fe H.es hs hf k e (not_set e1) (fun v q => rfl) (iiter cls env sc ρ A E s ι σ _ _ H k e e1)
    (fun cls' cenv ρ σ1 b σ2 s ι E hc fe es k e q => tstAll_sound ifs s ι σ1 σ2 b iifs ⟨H.rm, hc.trans H.cm, fe, es⟩ k e q)
    (fun cls' cenv D p σ1 p' σ2 s ι E kk Qk hc fe es hD hDL hDC k e da q hk => piece_sound ielt rest 0 rfl (fun g hg => ih g (List.mem_cons_of_mem _ hg)) (fun g hg => hasy g (List.mem_cons_of_mem _ hg)) cls' cenv D p σ1 p' σ2 s ι E kk Qk ⟨H.rm, hc.trans H.cm, fe, es⟩ hD hDL hDC k e da q hk)
    e2 e3 fun s₁ s₅ ext cenv D hg ho st k1 hfr hDL hns a => ?_
  have hex : ∀ a, cpl scope cenv D a → ¬ cls.ex a := fun a q z => by
    obtain ⟨⟨o, y⟩, _⟩ := k1.exs a z
    rw [hfr a q] at y; cases y
  have hC : cpl scope cenv D cenv.locals := .inl (.inl rfl)
  refine hQ s₁ s₅ (ι ++ ext) σa cenv.locals D ⟨hg, ho, ext, rfl, st⟩ k1 (hfr _ hC) (hex _ hC) hns ?_
  refine comp_end (cls := cls) (cls₀ := cls.plus (only cenv.locals)) (scope := scope) (cenv := cenv) rfl (fun a q => q.elim .inl fun z => .inr (by rw [show a = _ from z]; exact hC)) (fun q => q.elim (hex D (.inr rfl)) hDL) hfr a e4
theorem ev_comp {elt : Expr} {gens : List Comprehension} {scope : Scope} {pos : Pos} (ielt : EvOK w cf h₀ n elt) (ih : ∀ g ∈ gens, g.is_async = 0 → EvOK w cf h₀ n g.iter ∧ ∀ f ∈ g.ifs, TstOK w cf h₀ n f) :
    EvOK w cf h₀ n (.ListComp elt gens scope pos) := by
  intro cls env sc ρ A E s ι σ σ' v H k e he
  rw [arm_eval_ListComp]
  refine comp_use (use := none) ielt ih H k e he fun s₁ s₅ ι₁ σa C D p k1 hC hCx hns a => ?_
  obtain ⟨m, hm⟩ := hns
  refine ⟨m, hm, fun h' sb => ?_⟩
  have := leaveC (own := fun _ => False) (R' := fun h ι' => Den cls h ι' v (.ref D)) a.o sb hC hCx (fun h ι' d hk _ => Den.minus _ _ (Den.kx hk _ _ d))
  exact p.lift this.after
theorem sub_lt_list {x : Expr} {es : List Expr} (h : x ∈ es) : sizeOf x < sizeOf es := List.sizeOf_lt_of_mem h
theorem all_sound (F : Facts w cf K h₀ n) : ∀ N : Nat, ∀ x : Expr, sizeOf x < N → EvOK w cf h₀ n x ∧ TstOK w cf h₀ n x
  | 0, x, h => by exact ⟨(lin [_] (.h 1 1 (.v 0) (.c 0) .f) rfl h).elim, (lin [_] (.h 1 1 (.v 0) (.c 0) .f) rfl h).elim⟩
  | N + 1, x, h => by
    have ih := all_sound F N
    have ihs : ∀ es : List Expr, sizeOf es ≤ N → ∀ x ∈ es, EvOK w cf h₀ n x ∧ TstOK w cf h₀ n x := fun es hes x hx => ih x (by have := sub_lt_list hx; exact lin [_,_,_] (.h 1 0 (.v 0) (.v 1) (.h 1 1 (.v 2) (.v 0) (.g 1 1 (.v 2) (.v 1)))) rfl hes this)
    have dead : (∀ (P : Prm) (cf : CF) sc ρ, ev P cf sc ρ x = fail) → (∀ (P : Prm) (cf : CF) sc ρ, tst P cf sc ρ x fail = fail) → EvOK w cf h₀ n x ∧ TstOK w cf h₀ n x := fun h1 h2 =>
      ⟨fun cls env sc ρ A E s ι σ σ' v H k e he => by rw [h1] at he; exact (fail_iff.mp he).elim, fun cls env sc ρ A E s ι σ σ' v H k e he => by rw [h1, h2] at he; exact (fail_iff.mp he).elim⟩
    have failb : ∀ {α β : Type} (f : α → M β), (do let v ← (fail : M α); f v) = fail := fun f => rfl
    cases x with
    | Constant c kk pos => exact ⟨ev_const, tst_plain ev_const (fun _ _ _ _ _ => rfl) (fun _ _ => rfl)⟩
    | Name y pos => exact ⟨ev_name, tst_plain ev_name (fun _ _ _ _ _ => rfl) (fun _ _ => rfl)⟩
    | BoolOp op es pos =>
      have := ihs es (by simp at h; exact lin [_,_,_,_] (.h 1 1 (.a (.a (.a (.c 1) (.v 0)) (.v 1)) (.v 2)) (.a (.v 3) (.c 1)) (.g 1 0 (.v 1) (.v 3))) rfl h)
      exact ⟨ev_bool fun x hx => (this x hx).1, tst_bool fun x hx => (this x hx).2⟩
    | BinOp l op r pos =>
      have := ev_bin (op := op) (pos := pos) (ih l (by simp at h; exact lin [_,_,_,_,_] (.h 1 1 (.a (.a (.a (.a (.c 1) (.v 0)) (.v 1)) (.v 2)) (.v 3)) (.a (.v 4) (.c 1)) (.g 1 1 (.v 0) (.v 4))) rfl h)).1 (ih r (by simp at h; exact lin [_,_,_,_,_] (.h 1 1 (.a (.a (.a (.a (.c 1) (.v 0)) (.v 1)) (.v 2)) (.v 3)) (.a (.v 4) (.c 1)) (.g 1 1 (.v 2) (.v 4))) rfl h)).1
      exact ⟨this, tst_plain this (fun _ _ _ _ _ => rfl) (fun _ _ => rfl)⟩
    | UnaryOp op y pos =>
      obtain ⟨i1, i2⟩ := ih y (by simp at h; exact lin [_,_,_,_] (.h 1 1 (.a (.a (.a (.c 1) (.v 0)) (.v 1)) (.v 2)) (.a (.v 3) (.c 1)) (.g 1 1 (.v 1) (.v 3))) rfl h)
      have := ev_unary (op := op) (pos := pos) i1
      refine ⟨this, ?_⟩
      cases op with
      | Not => exact tst_not i2
      | _ => exact tst_plain this (fun _ _ _ _ _ => rfl) (fun _ _ => rfl)
    | IfExp t a b pos =>
      have := ev_if (pos := pos) (ih t (by simp at h; exact lin [_,_,_,_,_] (.h 1 1 (.a (.a (.a (.a (.c 1) (.v 0)) (.v 1)) (.v 2)) (.v 3)) (.a (.v 4) (.c 1)) (.g 1 1 (.v 0) (.v 4))) rfl h)).2 (ih a (by simp at h; exact lin [_,_,_,_,_] (.h 1 1 (.a (.a (.a (.a (.c 1) (.v 0)) (.v 1)) (.v 2)) (.v 3)) (.a (.v 4) (.c 1)) (.g 1 1 (.v 1) (.v 4))) rfl h)).1 (ih b (by simp at h; exact lin [_,_,_,_,_] (.h 1 1 (.a (.a (.a (.a (.c 1) (.v 0)) (.v 1)) (.v 2)) (.v 3)) (.a (.v 4) (.c 1)) (.g 1 1 (.v 2) (.v 4))) rfl h)).1
      exact ⟨this, fun cls env sc ρ A E s ι σ σ' v H k e he => by rw [qt4] at he; exact (fail_iff.mp he).elim⟩
    | Dict ks vs pos =>
      cases ks with
      | nil =>
        cases vs with
        | nil => exact ⟨ev_dict, tst_plain ev_dict (fun _ _ _ _ _ => rfl) (fun _ _ => rfl)⟩
        | cons a b => exact dead (fun _ _ _ _ => rfl) (fun _ _ _ _ => rfl)
      | cons a b => exact dead (fun _ _ _ _ => rfl) (fun _ _ _ _ => rfl)
    | List es pos =>
      have := ev_list (pos := pos) fun x hx => (ihs es (by simp at h; exact lin [_,_,_] (.h 1 1 (.a (.a (.c 1) (.v 0)) (.v 1)) (.a (.v 2) (.c 1)) (.g 1 0 (.v 0) (.v 2))) rfl h) x hx).1
      exact ⟨this, tst_plain this (fun _ _ _ _ _ => rfl) (fun _ _ => rfl)⟩
    | Tuple es kk pos =>
      have := ev_tuple (kk := kk) (pos := pos) fun x hx => (ihs es (by simp at h; exact lin [_,_,_,_] (.h 1 1 (.a (.a (.a (.c 1) (.v 0)) (.v 1)) (.v 2)) (.a (.v 3) (.c 1)) (.g 1 0 (.v 0) (.v 3))) rfl h) x hx).1
      exact ⟨this, tst_plain this (fun _ _ _ _ _ => rfl) (fun _ _ => rfl)⟩
    | ListComp elt gens scope pos =>
      have := ev_comp (scope := scope) (pos := pos) (ih elt (by simp at h; exact lin [_,_,_,_,_] (.h 1 1 (.a (.a (.a (.a (.c 1) (.v 0)) (.v 1)) (.v 2)) (.v 3)) (.a (.v 4) (.c 1)) (.g 1 1 (.v 0) (.v 4))) rfl h)).1 (gens := gens) fun g hg _ => by
        have h1 := List.sizeOf_lt_of_mem hg
        obtain ⟨t, iter, ifs, asy⟩ := g
        simp at h h1
        exact ⟨(ih iter (by exact lin [_,_,_,_,_,_,_,_,_] (.h 1 1 (.a (.a (.a (.a (.c 1) (.v 0)) (.v 1)) (.v 2)) (.v 3)) (.a (.v 4) (.c 1)) (.h 1 1 (.a (.a (.a (.a (.c 1) (.v 5)) (.v 6)) (.v 7)) (.v 8)) (.v 1) (.g 1 1 (.v 6) (.v 4)))) rfl h h1)).1, fun f hf => (ihs ifs (by exact lin [_,_,_,_,_,_,_,_,_] (.h 1 1 (.a (.a (.a (.a (.c 1) (.v 0)) (.v 1)) (.v 2)) (.v 3)) (.a (.v 4) (.c 1)) (.h 1 1 (.a (.a (.a (.a (.c 1) (.v 5)) (.v 6)) (.v 7)) (.v 8)) (.v 1) (.g 1 0 (.v 7) (.v 4)))) rfl h h1) f hf).2⟩
      exact ⟨this, tst_plain this (fun _ _ _ _ _ => rfl) (fun _ _ => rfl)⟩
    | Compare l ops cs pos =>
      have h1 := (ih l (by simp at h; exact lin [_,_,_,_,_] (.h 1 1 (.a (.a (.a (.a (.c 1) (.v 0)) (.v 1)) (.v 2)) (.v 3)) (.a (.v 4) (.c 1)) (.g 1 1 (.v 0) (.v 4))) rfl h)).1
      have h2 : ∀ x ∈ cs, EvOK w cf h₀ n x := fun x hx => (ihs cs (by simp at h; exact lin [_,_,_,_,_] (.h 1 1 (.a (.a (.a (.a (.c 1) (.v 0)) (.v 1)) (.v 2)) (.v 3)) (.a (.v 4) (.c 1)) (.g 1 0 (.v 2) (.v 4))) rfl h) x hx).1
      exact ⟨ev_cmp h1 h2, tst_cmp h1 h2⟩
    | Attribute o nm pos =>
      have := ev_attr F (nm := nm) (pos := pos) (ih o (by simp at h; exact lin [_,_,_,_] (.h 1 1 (.a (.a (.a (.c 1) (.v 0)) (.v 1)) (.v 2)) (.a (.v 3) (.c 1)) (.g 1 1 (.v 0) (.v 3))) rfl h)).1
      exact ⟨this, tst_plain this (fun _ _ _ _ _ => rfl) (fun _ _ => rfl)⟩
    | Subscript o i pos =>
      have io := (ih o (by simp at h; exact lin [_,_,_,_] (.h 1 1 (.a (.a (.a (.c 1) (.v 0)) (.v 1)) (.v 2)) (.a (.v 3) (.c 1)) (.g 1 1 (.v 0) (.v 3))) rfl h)).1
      have : EvOK w cf h₀ n (.Subscript o i pos) := by
        by_cases hsl : isSlice i = true
        · cases i with
          | Slice lo hi st p1 =>
            have dd : (∀ (P : Prm) (cf : CF) sc ρ, ev P cf sc ρ (.Subscript o (.Slice lo hi st p1) pos) = fail) → EvOK w cf h₀ n (.Subscript o (.Slice lo hi st p1) pos) := fun h1 cls env sc ρ A E s ι σ σ' v H k e he => by
              rw [h1] at he; exact (fail_iff.mp he).elim
            cases lo with
            | none =>
              cases hi with
              | none => exact dd fun _ _ _ _ => rfl
              | some hh =>
                cases st with
                | none => exact ev_slice_to io (ih hh (by simp at h; exact lin [_,_,_,_,_] (.h 1 1 (.a (.a (.a (.c 1) (.v 0)) (.a (.a (.a (.c 2) (.a (.c 1) (.v 1))) (.c 1)) (.v 2))) (.v 3)) (.a (.v 4) (.c 1)) (.g 1 1 (.v 1) (.v 4))) rfl h)).1
                | some _ => exact dd fun _ _ _ _ => rfl
            | some ll =>
              cases hi with
              | none =>
                cases st with
                | none => exact ev_slice_from io (ih ll (by simp at h; exact lin [_,_,_,_,_] (.h 1 1 (.a (.a (.a (.c 1) (.v 0)) (.a (.a (.a (.a (.c 1) (.a (.c 1) (.v 1))) (.c 1)) (.c 1)) (.v 2))) (.v 3)) (.a (.v 4) (.c 1)) (.g 1 1 (.v 1) (.v 4))) rfl h)).1
                | some _ => exact dd fun _ _ _ _ => rfl
              | some hh => exact dd fun _ _ _ _ => rfl
          | _ => exact (Bool.false_ne_true hsl).elim
        · exact ev_sub (by simpa using hsl) io (ih i (by simp at h; exact lin [_,_,_,_] (.h 1 1 (.a (.a (.a (.c 1) (.v 0)) (.v 1)) (.v 2)) (.a (.v 3) (.c 1)) (.g 1 1 (.v 1) (.v 3))) rfl h)).1
      exact ⟨this, tst_plain this (fun _ _ _ _ _ => rfl) (fun _ _ => rfl)⟩
    | Call f args kws pos =>
      have ia : ∀ x ∈ args, EvOK w cf h₀ n x := fun x hx => (ihs args (by simp at h; exact lin [_,_,_,_,_] (.h 1 1 (.a (.a (.a (.a (.c 1) (.v 0)) (.v 1)) (.v 2)) (.v 3)) (.a (.v 4) (.c 1)) (.g 1 0 (.v 1) (.v 4))) rfl h) x hx).1
      have : EvOK w cf h₀ n (.Call f args kws pos) := by
        have dd : (∀ (P : Prm) (cf : CF) sc ρ, ev P cf sc ρ (.Call f args kws pos) = fail) → EvOK w cf h₀ n (.Call f args kws pos) := fun h1 cls env sc ρ A E s ι σ σ' v H k e he => by
          rw [h1] at he; exact (fail_iff.mp he).elim
        cases kws with
        | cons a b => exact dd fun _ _ _ _ => qkw (by nofun)
        | nil =>
          cases f with
          | Attribute o nm apos => exact ev_meth F (ih o (by simp at h; exact lin [_,_,_,_,_,_] (.h 1 1 (.a (.a (.a (.a (.c 1) (.a (.a (.a (.c 1) (.v 0)) (.v 1)) (.v 2))) (.v 3)) (.c 1)) (.v 4)) (.a (.v 5) (.c 1)) (.g 1 1 (.v 0) (.v 5))) rfl h)).1 ia
          | Name f p1 =>
            refine ev_named F ia fun func as kws p2 q x hx => (ihs as ?_ x hx).1
            subst q
            simp at h
            exact lin [_,_,_,_,_,_,_,_] (.h 1 1 (.a (.a (.a (.a (.c 1) (.a (.a (.c 1) (.v 0)) (.v 1))) (.a (.a (.c 1) (.a (.a (.a (.a (.c 1) (.v 2)) (.v 3)) (.v 4)) (.v 5))) (.c 1))) (.c 1)) (.v 6)) (.a (.v 7) (.c 1)) (.g 1 0 (.v 3) (.v 7))) rfl h
          | _ => exact dd fun _ _ _ _ => rfl
      exact ⟨this, tst_plain this (fun _ _ _ _ _ => rfl) (fun _ _ => rfl)⟩
    | _ => exact dead (fun _ _ _ _ => rfl) (fun _ _ _ _ => rfl)
end
end Mine
end
section
open PySem PySem.W PyProof.Rows PySem.Spec
set_option maxRecDepth 100000
namespace Mine
section
variable (w : World) (cf : CF) (h₀ : Heap) (n : Nat)
noncomputable def ExPost (cls : Cx) (ι : List Addr) (s : Shared) (sc : Scope) (env : Env) (σ' : Sg) (r : Fl × Rho) : Flow → Shared → Prop :=
  fun f s' => AfterO (OwnAt sc env) cls h₀ ι s σ' (fun h ι' => EnvOK cls h ι' sc env r.2 ∧ FlD cls h ι' r.1 f) s'
noncomputable def ExOK (st : Stmt) : Prop := ∀ (cls : Cx) (env : Env) (sc : Scope) (ρ : Rho) (A : Around) (E : Value → Shared → Prop) (s : Shared) (ι : List Addr) (σ σ' : Sg) (r : Fl × Rho), Here n cls sc env A → Ok cls h₀ s.heap ι σ → EnvOK cls s.heap ι sc env ρ →
  ex P cf sc ρ st σ = some (r, σ') → wpAny (model prog w) A (exec st env) (ExPost h₀ cls ι s sc env σ' r) E s
end
section
variable {w : World} {cf : CF} {K : Frag} {h₀ : Heap} {n : Nat}
variable {A : Around} {E : Value → Shared → Prop} {s s₁ s₂ : Shared} {cls : Cx} {ι ι₁ ι₂ : List Addr} {σ σ' σ1 σ2 : Sg} {sc : Scope} {env : Env} {ρ : Rho}
theorem Here.own (H : Here n cls sc env A) : ∀ a, OwnAt sc env a → cls.ex a := fun a q => q.ex H.fe
theorem Path.liftO {own : Addr → Prop} {R : Heap → List Addr → Prop} (p : Path ι s ι₁ s₁) (ho : ∀ a, own a → cls.ex a) (a : AfterO own cls h₀ ι₁ s₁ σ R s₂) : AfterO own cls h₀ ι s σ R s₂ := by
  obtain ⟨ext, rfl, st⟩ := p.ex
  exact AfterO.trans ho p.gens p.os st.o a
theorem exs_sound : ∀ (ss : List Stmt) (cls : Cx) (ρ : Rho) (E : Value → Shared → Prop) (s : Shared) (ι : List Addr) (σ σ' : Sg) (r : Fl × Rho), (∀ st ∈ ss, ExOK w cf h₀ n st) → Here n cls sc env A → Ok cls h₀ s.heap ι σ → EnvOK cls s.heap ι sc env ρ → exs P cf sc ρ ss σ = some (r, σ') →
    wpAny (model prog w) A (execs ss env) (ExPost h₀ cls ι s sc env σ' r) E s
  | [], cls, ρ, E, s, ι, σ, σ', r, _, H, k, e, he => by
    rw [qxs1] at he
    refine pure_e he ?_
    exact wpAny_execs_nil ⟨rfl, rfl, [], ⟨fun _ _ _ _ z => z, fun _ z => (List.not_mem_nil z).elim⟩, by rw [List.append_nil]; exact k, by rw [List.append_nil]; exact ⟨e, rfl⟩⟩
  | st :: ss, cls, ρ, E, s, ι, σ, σ', r, ih, H, k, e, he => by
    rw [qxs2] at he
    refine el_EEA (bind_iff.mp he) fun hn0_ σ1 e1 e2 => ?_
    obtain ⟨fl, ρ1⟩ := hn0_
    refine wpAny_execs_cons (wpAny_mono (ih st (by simp) cls env sc ρ A E s ι σ _ _ H k e e1) (fun f s₁ a => ?_) fun _ _ z => z)
    cases fl with
    | next =>
      refine a.elim fun g o ext stp k1 rr_ => ?_
      obtain ⟨en1, fd⟩ := rr_
      have fd : f = .next := fd
      refine eq_l fd ?_
      dsimp only at e2 ⊢
      exact wpAny_mono (exs_sound ss cls ρ1 E s₁ (ι ++ ext) σ1 σ' r (fun x hx => ih x (List.mem_cons_of_mem _ hx)) H k1 en1 e2) (fun f' s₂ b => AfterO.trans H.own g o stp b) fun _ _ z => z
    | brk =>
      have hf : f = .brk := by obtain ⟨_, _, _, _, _, _, fd⟩ := a; exact fd
      subst hf
      dsimp only at e2 ⊢
      refine pure_e e2 ?_
      exact a
    | ret v =>
      have hf : ∃ u, f = .ret u := by obtain ⟨_, _, _, _, _, _, u, fd, _⟩ := a; exact ⟨u, fd⟩
      obtain ⟨u, rfl⟩ := hf
      dsimp only at e2 ⊢
      refine pure_e e2 ?_
      exact a
theorem ex_plain {r : Fl × Rho} {f : Flow} (H : Here n cls sc env A) (p : Path ι s ι₁ s₁) (k : Ok cls h₀ s₁.heap ι₁ σ') (e : EnvOK cls s₁.heap ι₁ sc env r.2) (d : FlD cls s₁.heap ι₁ r.1 f) : ExPost h₀ cls ι s sc env σ' r f s₁ :=
  p.liftO H.own ⟨rfl, rfl, [], ⟨fun _ _ _ _ z => z, fun _ z => (List.not_mem_nil z).elim⟩, by rw [List.append_nil]; exact k, by rw [List.append_nil]; exact ⟨e, d⟩⟩
theorem Path.refl : Path ι s ι s := ⟨rfl, rfl, [], by rw [List.append_nil], ⟨fun _ _ _ z => z, fun _ z => (List.not_mem_nil z).elim⟩⟩
theorem notInter (es : EnvSt sc env) : interactive env = false := by unfold interactive; rw [es.fn]; rfl
theorem ex_expr {x : Expr} {pos : Pos} (ih : EvOK w cf h₀ n x) : ExOK w cf h₀ n (.Expr x pos) := by
  intro cls env sc ρ A E s ι σ σ' r H k e he
  rw [qx1] at he
  refine check_e he fun hc e2 => ?_
  refine bind_e e2 fun v σ1 e3 e4 => ?_
  refine pure_e e4 ?_
  have hs : swapsWith x none pos.line env = pure false := by
    cases x <;> first | rfl | (exact (Bool.false_ne_true hc).elim) | (exact (none_ne (α := V × Sg) e3).elim)
  refine wpAny_Expr_any (then_ (ih cls env sc ρ A E s ι σ _ _ H k e e3) fun u s₁ ι₁ p k1 d1 => ?_) (notInter H.es) hs
  exact ex_plain H p k1 (p.envs H.fe k e) rfl
theorem ex_if {t : Expr} {body orelse : List Stmt} {pos : Pos} (it : TstOK w cf h₀ n t) (ib : ∀ st ∈ body, ExOK w cf h₀ n st) (io : ∀ st ∈ orelse, ExOK w cf h₀ n st) : ExOK w cf h₀ n (.If t body orelse pos) := by
  intro cls env sc ρ A E s ι σ σ' r H k e he
  rw [qx6] at he
  refine bind_e he fun c σ1 e1 e2 => ?_
  refine wpAny_If (then_ (it cls env sc ρ A E s ι σ _ _ H k e e1) fun u s₁ ι₁ p k1 d1 => ?_)
  have d1 : u = c := d1
  subst d1
  cases u with
  | true =>
    rw [if_pos rfl] at e2 ⊢
    exact wpAny_mono (exs_sound body cls ρ E s₁ ι₁ σ1 _ _ ib H k1 (p.envs H.fe k e) e2) (fun f s₂ b => p.liftO H.own b) fun _ _ z => z
  | false =>
    rw [if_neg Bool.false_ne_true] at e2 ⊢
    exact wpAny_mono (exs_sound orelse cls ρ E s₁ ι₁ σ1 _ _ io H k1 (p.envs H.fe k e) e2) (fun f s₂ b => p.liftO H.own b) fun _ _ z => z
theorem ex_while {t : Expr} {body : List Stmt} {pos : Pos} (it : TstOK w cf h₀ n t) (ib : ∀ st ∈ body, ExOK w cf h₀ n st) : ExOK w cf h₀ n (.While t body [] pos) := by
  intro cls env sc ρ A E s ι σ σ' r H k e he
  rw [qx7] at he
  refine wpAny_While ?_
  refine codeAny_whileLoop (fun fuel s' => ∃ ρ1 σ1, AfterO (OwnAt sc env) cls h₀ ι s σ1 (fun h ι' => EnvOK cls h ι' sc env ρ1) s' ∧ whileM (fun ρ => tst P cf sc ρ t (ev P cf sc ρ t)) (fun ρ => exs P cf sc ρ body) fuel ρ1 σ1 = some (r, σ')) (fun fuel s' hI => ?_) 1000
    ⟨ρ, σ, ⟨rfl, rfl, [], ⟨fun _ _ _ _ z => z, fun _ z => (List.not_mem_nil z).elim⟩, by rw [List.append_nil]; exact k, by rw [List.append_nil]; exact e⟩, he⟩
  refine el_EEA hI fun ρ1 σ1 hn2_ he1 => ?_
  obtain ⟨g, o, ext, st, k1, en1⟩ := hn2_
  cases fuel with
  | zero => exact (fail_iff.mp he1).elim
  | succ fuel =>
    rw [qwh] at he1
    refine bind_e he1 fun c σ2 e1 e2 => ?_
    refine then_ (it cls env sc ρ1 A _ s' (ι ++ ext) σ1 _ _ H k1 en1 e1) fun u s₁ ι₁ p k2 d1 => ?_
    have d1 : u = c := d1
    subst d1
    have en2 := p.envs H.fe k1 en1
    cases u with
    | true =>
      rw [if_pos rfl] at e2 ⊢
      obtain ⟨⟨fl, ρ2⟩, σ3, e3, e4⟩ := bind_iff.mp e2
      refine wpAny_mono (exs_sound body cls ρ1 _ s₁ ι₁ σ2 _ _ ib H k2 en2 e3) (fun f s₂ b => ?_) fun _ _ z => z
      have b' := AfterO.trans H.own g o st (p.liftO H.own b)
      cases fl with
      | next =>
        have hf : f = .next := by obtain ⟨_, _, _, _, _, _, fd⟩ := b; exact fd
        refine eq_l hf ?_
        dsimp only at e4 ⊢
        exact in_EAEEA fuel (Nat.lt_succ_self _) ρ2 σ3 (b'.mono fun h' ext' _ q => q.1) e4
      | brk =>
        have hf : f = .brk := by obtain ⟨_, _, _, _, _, _, fd⟩ := b; exact fd
        subst hf
        dsimp only at e4 ⊢
        refine pure_e e4 ?_
        exact b'.mono fun h' ext' _ q => ⟨q.1, rfl⟩
      | ret v =>
        have hf : ∃ u, f = .ret u := by obtain ⟨_, _, _, _, _, _, u, fd, _⟩ := b; exact ⟨u, fd⟩
        obtain ⟨u, rfl⟩ := hf
        dsimp only at e4 ⊢
        refine pure_e e4 ?_
        exact b'
    | false =>
      rw [if_neg Bool.false_ne_true] at e2 ⊢
      refine pure_e e2 ?_
      refine wpAny_execs_nil (AfterO.trans H.own g o st (p.liftO H.own ⟨rfl, rfl, [], ⟨fun _ _ _ _ z => z, fun _ z => (List.not_mem_nil z).elim⟩, by rw [List.append_nil]; exact k2, by rw [List.append_nil]; exact ⟨en2, rfl⟩⟩))
theorem ex_for {t iter : Expr} {body : List Stmt} {pos : Pos} (ii : EvOK w cf h₀ n iter) (ib : ∀ st ∈ body, ExOK w cf h₀ n st) : ExOK w cf h₀ n (.For t iter body [] pos) := by
  intro cls env sc ρ A E s ι σ σ' r H k e he
  rw [qx8] at he
  refine bind_e he fun x σ1 e1 e2 => ?_
  refine el_EEA (bind_iff.mp e2) fun hn0_ σ2 e3 e4 => ?_
  obtain ⟨xs, tk⟩ := hn0_
  refine wpAny_For (then_ (ii cls env sc ρ A E s ι σ _ _ H k e e1) fun u s₁ ι₁ p k1 d1 => ?_) (not_set e1)
  have en1 := p.envs H.fe k e
  refine iter_sound k1 d1 e3 fun I h' hσ htr hI hk itp => ?_
  subst hσ
  have hIo : ¬ cls.ex I := fun q => by
    obtain ⟨⟨o, z⟩, _⟩ := k1.exs I q
    rw [hI] at z; cases z
  have hp0 : ∀ a, only I a → s₁.heap.get? a = none := fun a q => by rw [show a = I from q]; exact hI
  obtain ⟨T, vs, _, oI, hoI, _⟩ := itp.obj
  obtain ⟨fl, ρ'⟩ := r
  refine for_sound (cf := cf) (s := s₁) (ι := ι₁) (ρ := ρ) (ρ' := ρ') (fl := fl) (σ2 := σ') H.rm.hd H.fe H.es hI hIo (fun v ρ => rfl)
    (fun ρ σ1 r σ2 s ι E k e q => exs_sound body (cls.plus (only I)) ρ E s ι σ1 σ2 r ib H.plus k e q)
    ⟨⟨rfl, rfl, [], ⟨fun b o _ _ q => hk b o q, fun _ q => (List.not_mem_nil q).elim⟩, ?_, ?_⟩, htr⟩ e4 fun f s₂ a => p.liftO H.own a
  · rw [List.append_nil]
    exact k1.plus hp0 hk fun b q => by rw [show b = I from q]; exact ⟨oI, hoI⟩
  · rw [List.append_nil]
    exact ⟨en1.plus hp0 hk, itp⟩
end
end Mine
end
section
open PySem PySem.W PyProof.Rows PySem.Spec
set_option maxRecDepth 100000
namespace Mine
section
variable {w : World} {cf : CF} {K : Frag} {h₀ : Heap} {n : Nat}
variable {A : Around} {E : Value → Shared → Prop} {s s₁ s₂ : Shared} {cls : Cx} {ι ι₁ ι₂ : List Addr} {σ σ' σ1 σ2 : Sg} {sc : Scope} {env : Env} {ρ ρ' : Rho}
theorem ex_pass {pos : Pos} : ExOK w cf h₀ n (.Pass pos) := by
  intro cls env sc ρ A E s ι σ σ' r H k e he
  rw [qx2] at he
  refine pure_e he ?_
  exact wpAny_Pass (ex_plain H Path.refl k e rfl)
theorem ex_break {pos : Pos} : ExOK w cf h₀ n (.Break pos) := by
  intro cls env sc ρ A E s ι σ σ' r H k e he
  rw [qx3] at he
  refine pure_e he ?_
  exact wpAny_Break (ex_plain H Path.refl k e rfl)
theorem ex_ret {v : Option Expr} {pos : Pos} (ih : ∀ x, v = some x → EvOK w cf h₀ n x) : ExOK w cf h₀ n (.Return v pos) := by
  intro cls env sc ρ A E s ι σ σ' r H k e he
  rw [qx4] at he
  refine bind_e he fun u σ1 e1 e2 => ?_
  refine pure_e e2 ?_
  cases v with
  | none =>
    refine pure_e e1 ?_
    exact wpAny_Return_none (ex_plain H Path.refl k e ⟨_, rfl, rfl⟩)
  | some x =>
    exact wpAny_Return_some (then_ (ih x rfl cls env sc ρ A E s ι σ _ _ H k e e1) fun u' s₁ ι₁ p k1 d1 => ex_plain H p k1 (p.envs H.fe k e) ⟨_, rfl, d1⟩)
theorem asg_sound (F : Facts w cf K h₀ n) {t : Expr} {v : V} {u : Value} (iat : ∀ o nm p, t = .Attribute o nm p → EvOK w cf h₀ n o) (isub : ∀ o i p, t = .Subscript o i p → EvOK w cf h₀ n o ∧ EvOK w cf h₀ n i)
    (H : Here n cls sc env A) (k : Ok cls h₀ s.heap ι σ) (e : EnvOK cls s.heap ι sc env ρ) (d : Den cls s.heap ι v u) (he : asg P cf sc ρ t v σ = some (ρ', σ')) :
    wpAny (model prog w) A (assign t env u) (fun _ s' => AfterO (OwnAt sc env) cls h₀ ι s σ' (fun h ι' => EnvOK cls h ι' sc env ρ') s') E s := by
  have plain : asgT sc t v ρ σ = some (ρ', σ') → wpAny (model prog w) A (assign t env u) (fun _ s' => AfterO (OwnAt sc env) cls h₀ ι s σ' (fun h ι' => EnvOK cls h ι' sc env ρ') s') E s := fun q =>
    asgT_sound H.rm.hd H.fe H.es k e d q fun s' hσ a => by subst hσ; exact a.afterO
  have fin : ∀ {s₁ s₂ : Shared} {ι₁ : List Addr} {σ1 : Sg}, Path ι s ι₁ s₁ → Ok cls h₀ s₁.heap ι₁ σ1 → EnvOK cls s₁.heap ι₁ sc env ρ → After cls h₀ ι₁ s₁ σ' (fun _ _ => True) s₂ → AfterO (OwnAt sc env) cls h₀ ι s σ' (fun h ι' => EnvOK cls h ι' sc env ρ) s₂ := fun {s₁ s₂ ι₁ σ1} p k1 en a => by
    refine a.elim fun g o ext st k2 _ => ?_
    exact p.liftO H.own ⟨g, o, ext, st.o, k2, en.step H.fe k1 st⟩
  cases t with
  | Attribute o nm p0 =>
    rw [qa5] at he
    refine bind_e he fun ov σ1 e1 e2 => ?_
    obtain ⟨⟨⟩, σ2, e3, e4⟩ := bind_iff.mp e2
    cases pure_iff.mp e4
    rw [arm_assign_Attribute]
    refine wpAny_bind (wpAny_holding (then_ (iat o nm p0 rfl cls env sc ρ A E s ι σ _ _ H k e e1) fun uv s₁ ι₁ p k1 d1 => ?_))
    refine wpAny_bind (wpAny_standAt (wpAny_bind (wpAny_holding (wpAny_mono (setAttrV_sound F.X (F.KC cls H.cm) k1 d1 (p.den d) e3) (fun _ s₂ a => wpAny_release' (fin p k1 (p.envs H.fe k e) a)) fun _ _ z => z))))
  | Subscript o i p0 =>
    rw [qa6] at he
    refine check_e he fun _ e0' => ?_
    refine bind_e e0' fun ov σ1 e1 e2 => ?_
    refine bind_e e2 fun iv σ2 e3 e4 => ?_
    obtain ⟨⟨⟩, σ3, e5, e6⟩ := bind_iff.mp e4
    refine pure_e e6 ?_
    obtain ⟨io, ii⟩ := isub o i p0 rfl
    rw [arm_assign_Subscript]
    refine wpAny_bind (wpAny_holding (then_ (io cls env sc ρ A E s ι σ _ _ H k e e1) fun uo s₁ ι₁ p k1 d1 => ?_))
    have en1 := p.envs H.fe k e
    refine wpAny_bind (wpAny_holding (then_ (ii cls env sc ρ A E s₁ ι₁ σ1 _ _ H k1 en1 e3) fun ui s₂ ι₂ p2 k2 d2 => ?_))
    refine wpAny_bind (wpAny_standAt (wpAny_bind (wpAny_holding (wpAny_mono (setIdxV_sound k2 (p2.den d1) d2 (p2.den (p.den d)) e5) (fun _ s₃ a => wpAny_release' ?_) fun _ _ z => z))))
    refine a.elim fun g oo ext st k3 _ => ?_
    exact p.liftO H.own (p2.liftO H.own ⟨g, oo, ext, st.o, k3, (p2.envs H.fe k1 en1).step H.fe k2 st⟩)
  | Name x p0 => exact plain he
  | Tuple ts a b => exact plain he
  | _ => exact plain he
theorem sw_pure {value t : Expr} {l : Nat} {r : V × Sg} (h : ev P cf sc ρ value σ = some r) : ∃ b, swapsWith value (some t) l env = pure b ∧ (b = true → ∃ elt gens scope p x px, value = .ListComp elt gens scope p ∧ t = .Name x px) := by
  have no : ∀ {q : Prop}, (false = true → q) := fun z => (Bool.false_ne_true z).elim
  cases value <;> first | exact ⟨false, rfl, no⟩ | (exact (none_ne (α := V × Sg) h).elim) | skip
  rename_i elt gens scope p
  cases t <;> first | exact ⟨_, rfl, fun _ => ⟨_, _, _, _, _, _, rfl, rfl⟩⟩ | exact ⟨false, rfl, no⟩
theorem filterMap_full {f : Expr → Option Str} : ∀ {ts : List Expr} {xs : List Str}, namesOf ts = some xs → (∀ x p, f (.Name x p) = some x ∨ f (.Name x p) = none) → (ts.filterMap f).length = ts.length → ts.filterMap f = xs
  | [], xs, h, _, _ => by cases h; rfl
  | t :: r, xs, h, hf, hl => by
      obtain ⟨y, p, ys, rfl, hr, rfl⟩ := namesOf_cons h
      rcases hf y p with q | q
      · rw [List.filterMap_cons_some q] at hl ⊢
        rw [filterMap_full hr hf (by simpa using hl)]
      · rw [List.filterMap_cons_none q] at hl
        have := List.length_filterMap_le f r
        simp at hl
        exact (lin [_,_] (.h 1 3 (.v 0) (.a (.v 1) (.c 1)) (.h 1 0 (.v 0) (.v 1) .f)) rfl hl this).elim
theorem ite_c {α : Type} {c : Prop} [Decidable c] {p : α → Prop} {a b : α} (h1 : c → p a) (h2 : ¬ c → p b) : p (if c then a else b) := by
  by_cases h : c
  · rw [if_pos h]; exact h1 h
  · rw [if_neg h]; exact h2 h
noncomputable def SwP (xs : List Str) (X : Sem (Option (List Str))) : Prop := ∃ o, X = pure o ∧ (∀ names, o = some names → names = xs)
theorem swapped_spec {t value : Expr} {xs : List Str} {ts : List Expr} {k0 : Nat} {p0 : Pos} (ht : t = .Tuple ts k0 p0) (hx : namesOf ts = some xs) (hf : swapFine t value = true) :
    ∃ o, swappedStores [t] value env = pure o ∧ (∀ names, o = some names → names = xs) := by
  subst ht
  have none_ : ∃ o, (pure none : Sem (Option (List Str))) = pure o ∧ (∀ names, o = some names → names = xs) := ⟨none, rfl, fun _ q => (fail_e q)⟩
  cases value with
  | Tuple vs c d =>
    have hc : vs.all (constantsAlone 8) = false := (Bool.not_eq_true' _).mp hf
    refine ite_c (p := SwP xs) (fun _ => none_) fun _ => ?_
    refine ite_c (p := SwP xs) (fun _ => none_) fun _ => ?_
    refine ite_c (p := SwP xs) (fun _ => none_) fun hlen => ?_
    refine ite_c (p := SwP xs) (fun _ => none_) fun _ => ?_
    refine ite_c (p := SwP xs) (fun h => (Bool.false_ne_true (hc ▸ h)).elim) fun _ => ?_
    refine ⟨_, rfl, fun names q => ?_⟩
    cases q
    refine filterMap_full hx (fun x p => ite_c (p := fun X : Option Str => X = some x ∨ X = none) (fun _ => .inl rfl) fun _ => .inr rfl) ?_
    simp only [Bool.or_eq_true, bne_iff_ne, ne_eq, not_or, Decidable.not_not] at hlen
    exact hlen.1
  | _ => exact none_
theorem assignEach_one {t : Expr} (ht : ∀ e p, t ≠ .Starred e p) : (assignEach [t] env).map (·.2) = [assign t env] := by
  cases t <;> first | rfl | exact absurd rfl (ht _ _)
end
end Mine
end
section
open PySem PySem.W PyProof.Rows PySem.Spec
set_option maxRecDepth 100000
namespace Mine
section
variable {w : World} {cf : CF} {K : Frag} {h₀ : Heap} {n : Nat}
variable {A : Around} {E : Value → Shared → Prop} {s s₁ s₂ : Shared} {cls : Cx} {ι ι₁ ι₂ : List Addr} {σ σ' σ1 σ2 : Sg} {sc : Scope} {env : Env} {ρ ρ' : Rho}
theorem asgT_tuple {ts : List Expr} {k0 : Nat} {p0 : Pos} {v : V} (h : asgT sc (.Tuple ts k0 p0) v ρ σ = some (ρ', σ')) : ∃ xs vs, namesOf ts = some xs ∧ v = .tup vs ∧ vs.length = xs.length ∧ xs.all (isOwn sc) = true ∧ xs.Nodup ∧ ρ' = bindAll xs vs ρ ∧ σ' = σ := by
  rw [qa2] at h
  refine el_EEA (bind_iff.mp h) fun xs σ₁ e1 e2 => ?_
  refine el_EA (need_iff.mp e1) fun xs' hxs q => ?_
  cases q
  split at e2
  · rename_i vs
    obtain ⟨⟨⟩, σ₂, e3, e4⟩ := bind_iff.mp e2
    obtain ⟨hc, q⟩ := check_iff.mp e3
    cases q
    cases pure_iff.mp e4
    simp only [Bool.and_eq_true, beq_iff_eq, decide_eq_true_eq] at hc
    exact in_EEAAAA xs vs hxs rfl hc.1.1 hc.1.2 (in_AA hc.2 rfl rfl)
  · exact (fail_iff.mp e2).elim
theorem exec_Assign_eq (t value : Expr) (pos : Pos) (env : Env) (ht : ∀ e p, t ≠ .Starred e p) : exec (.Assign [t] value pos) env = (do
    standAt pos
    if ← swapsWith value (some t) pos.line env then do
      evalThenUse value env fun v => assign t env v
      pure Flow.next
    else do
      let v ← eval value env
      assignStores env v (← swappedStores [t] value env) [assign t env]) := by
  rw [arm_exec_Assign, assignEach_one ht]
  rfl
theorem swapped_none {t value : Expr} {env : Env} (h1 : ∀ ts k p, t ≠ .Tuple ts k p) (h2 : ∀ ts p, t ≠ .List ts p) : swappedStores [t] value env = pure none := by
  cases t with
  | Tuple ts k0 p0 => exact absurd rfl (h1 _ _ _)
  | List ts p0 => exact absurd rfl (h2 _ _)
  | _ => rfl
theorem ex_assign (F : Facts w cf K h₀ n) {t value : Expr} {pos : Pos} (iv : EvOK w cf h₀ n value)
    (icomp : ∀ elt gens scope p, value = .ListComp elt gens scope p → EvOK w cf h₀ n elt ∧ ∀ g ∈ gens, g.is_async = 0 → EvOK w cf h₀ n g.iter ∧ ∀ f ∈ g.ifs, TstOK w cf h₀ n f)
    (iat : ∀ o nm p, t = .Attribute o nm p → EvOK w cf h₀ n o) (isub : ∀ o i p, t = .Subscript o i p → EvOK w cf h₀ n o ∧ EvOK w cf h₀ n i) : ExOK w cf h₀ n (.Assign [t] value pos) := by
  intro cls env sc ρ A E s ι σ σ' r H k e he
  rw [qx5] at he
  refine check_e he fun hsw e0' => ?_
  refine bind_e e0' fun v σ1 e1 e2 => ?_
  refine bind_e e2 fun ρ' σ2 e3 e4 => ?_
  cases pure_iff.mp e4
  have hst : ∀ e p, t ≠ .Starred e p := fun e p q => by
    subst q
    exact (none_ne (α := Rho × Sg) e3).elim
  rw [exec_Assign_eq t value pos env hst]
  refine el_EA (sw_pure (env := env) (t := t) (l := pos.line) e1) fun b hb hbt => ?_
  refine wpAny_bind (wpAny_standAt ?_)
  rw [hb]
  refine wpAny_bind (wpAny_pure ?_)
  cases b with
  | false =>
    rw [if_neg Bool.false_ne_true]
    refine wpAny_bind (then_ (iv cls env sc ρ A E s ι σ _ _ H k e e1) fun u s₁ ι₁ p k1 d1 => ?_)
    have en1 := p.envs H.fe k e
    have single : wpAny (model prog w) A (assign t env u) (fun _ s' => ExPost h₀ cls ι s sc env σ' (.next, ρ') .next s') E s₁ :=
      wpAny_mono (asg_sound F iat isub H k1 en1 d1 e3) (fun _ s₂ a => p.liftO H.own (a.mono fun h' ext _ q => ⟨q, rfl⟩)) fun _ _ z => z
    have stores : wpAny (model prog w) A (assignStores env u none [assign t env]) (fun f s' => ExPost h₀ cls ι s sc env σ' (.next, ρ') f s') E s₁ := by
      show wpAny _ _ (do assignAll u [assign t env]; pure Flow.next) _ _ _
      exact wpAny_bind (wpAny_mono single (fun _ s₂ a => wpAny_pure a) fun _ _ z => z)
    by_cases htu : ∃ ts k0 p0, t = .Tuple ts k0 p0
    · obtain ⟨ts, k0, p0, rfl⟩ := htu
      have e3' : asgT sc (.Tuple ts k0 p0) v ρ σ1 = some (ρ', σ') := e3
      obtain ⟨xs, vs, hxs, rfl, hlen, hown, hnd, rfl, rfl⟩ := asgT_tuple e3'
      obtain ⟨o, ho, hnames⟩ := swapped_spec (env := env) rfl hxs hsw
      rw [ho]
      refine wpAny_bind (wpAny_pure ?_)
      cases o with
      | none => exact stores
      | some names =>
        have : names = xs := hnames names rfl
        subst this
        obtain ⟨c, us, rfl, oo, pl, ds⟩ := d1
        have hul := Dens.length ds
        show wpAny _ _ (do
          rule "assign.swapped-stores"
          let items ← unpackItems (.ref c) names.length none
          assignInOrder (names.reverse.map fun n => bindName env n) items.reverse
          pure Flow.next) _ _ _
        refine wpAny_bind (wpAny_rule ?_)
        have hsz : names.length = us.toArray.size := by rw [List.size_toArray]; exact Nat.le_antisymm (lin [_,_,_] (.h 1 3 (.v 0) (.v 1) (.h 1 3 (.v 2) (.v 0) (.g 1 0 (.v 1) (.v 2)))) rfl hlen hul) (lin [_,_,_] (.h 1 2 (.v 0) (.v 1) (.h 1 2 (.v 2) (.v 0) (.g 1 0 (.v 2) (.v 1)))) rfl hlen hul)
        rw [hsz]
        refine wpAny_bind (wpAny_unpackItems_tuple H.rm.hd (plainTup_isTuple pl) fun h' hb' => ?_)
        have hk : ∀ b o, s₁.heap.get? b = some o → h'.get? b = some o := fun b o q => hb' b o (addr_ne (Heap.lt_size q)) q
        have p2 : Path ι₁ s₁ ι₁ { s₁ with heap := h' } := ⟨rfl, rfl, [], by rw [List.append_nil], ⟨fun b o _ q => hk b o q, fun _ q => (List.not_mem_nil q).elim⟩⟩
        have k2 : Ok cls h₀ h' ι₁ σ' := k1.grow hk
        refine wpAny_bind (order_sound (s := { s₁ with heap := h' }) H.fe H.es names.reverse _ vs.reverse us.reverse ρ (by rw [List.length_map]) (by rw [List.length_reverse, List.length_reverse]; exact Nat.le_antisymm (lin [_,_] (.h 1 3 (.v 0) (.v 1) (.g 1 0 (.v 1) (.v 0))) rfl hlen) (lin [_,_] (.h 1 2 (.v 0) (.v 1) (.g 1 0 (.v 0) (.v 1))) rfl hlen)) (fun j f x hf hx u s Q hq => ?_) (by rw [List.all_reverse]; exact hown) k2 (p2.envs H.fe k1 en1) (Dens.rev (p2.dens ds)) fun s' a => ?_)
        · rw [List.getElem?_map] at hf
          rw [hx] at hf
          simp only [Option.map_some, Option.some.injEq] at hf
          refine eq_r hf ?_
          exact wpAny_bindName hq
        · rw [bindAll_rev names vs ρ (by exact Nat.le_antisymm (lin [_,_] (.h 1 3 (.v 0) (.v 1) (.g 1 0 (.v 1) (.v 0))) rfl hlen) (lin [_,_] (.h 1 2 (.v 0) (.v 1) (.g 1 0 (.v 0) (.v 1))) rfl hlen)) hnd] at a
          exact wpAny_pure (p.liftO H.own (p2.liftO H.own (a.afterO.mono fun h' ext _ q => ⟨q, rfl⟩)))
    · have hsn : swappedStores [t] value env = pure none := swapped_none (fun ts k p q => htu ⟨_, _, _, q⟩) fun ts p q => by
        subst q
        exact (none_ne (α := Rho × Sg) e3).elim
      rw [hsn]
      exact wpAny_bind (wpAny_pure stores)
  | true =>
    rw [if_pos rfl]
    obtain ⟨elt, gens, scope, pc, x, px, rfl, rfl⟩ := hbt rfl
    obtain ⟨ielt, igens⟩ := icomp elt gens scope pc rfl
    rw [arm_evalThenUse_ListComp]
    refine wpAny_bind (wpAny_bind ?_)
    refine comp_use (use := some fun v => assign (.Name x px) env v) (Q := fun _ s' => wpAny (model prog w) A (pure () : Sem Unit) (fun _ s' => wpAny (model prog w) A (pure .next : Sem Flow) (ExPost h₀ cls ι s sc env σ' (.next, ρ')) E s') E s') ielt igens H k e e1 fun s₁ s₅ ι₁ σa C D p k1 hC hCx hns a => ?_
    refine a.elim fun g o ext st k5 d5 => ?_
    have en1 := p.envs H.fe k e
    have hp0 : ∀ a, only C a → s₁.heap.get? a = none := fun a q => by rw [show a = C from q]; exact hC
    have en1' : EnvOK (cls.plus (only C)) s₁.heap ι₁ sc env ρ := en1.plus hp0 (fun _ _ z => z)
    have hkL : EnvOK (cls.plus (only C)) s₅.heap (ι₁ ++ ext) sc env ρ := by
      refine ⟨?_, fun y c hc => ?_, en1'.dom⟩
      · refine el_EA en1'.ns fun m hn hd => ?_
        exact ⟨m, hn.at' fun o q => st.keep _ o (k1.exs _ H.fe.l).2.1 q, fun y u h1 h2 => let ⟨w', h3, h4⟩ := hd y u h1 h2; ⟨w', h3, Den.step st.keep st.fresh u w' h4⟩⟩
      · refine el_EA (en1'.ce y c hc) fun o' hn1_ hd => ?_
        obtain ⟨ob, ho', hod⟩ := hn1_
        exact ⟨o', ⟨ob, st.keep _ _ (k1.exs _ (H.fe.c y c hc)).2.1 ho', hod⟩, fun u h1 h2 => let ⟨w', h3, h4⟩ := hd u h1 h2; ⟨w', h3, Den.step st.keep st.fresh u w' h4⟩⟩
    have fe' : FrameEx (cls.plus (only C)) env := H.fe.plus
    have hCo : ¬ OwnAt sc env C := fun q => hCx (q.ex H.fe)
    have hCL : C ≠ env.locals := fun q => hCo (.inl q)
    have hCC : ∀ y, env.cells.lookup y ≠ some C := fun y q => hCx (H.fe.c y C q)
    show wpAny _ _ (assign (.Name x px) env (.ref D)) _ _ _
    refine asgT_sound H.rm.hd fe' H.es k5 hkL d5 (show asgT sc (.Name x px) v ρ σ1 = some (ρ', σ') from e3) fun s₆ hσ as => ?_
    obtain ⟨m, hm⟩ := hns
    have hm6 : s₆.heap.Ns C m := hm.at' fun o q => as.keep _ o hCo q
    refine ⟨m, hm6, fun h' sb => wpAny_pure (wpAny_pure ?_)⟩
    have all : AfterO (OwnAt sc env) (cls.plus (only C)) h₀ ι₁ s₁ σ1 (fun h ι' => EnvOK (cls.plus (only C)) h ι' sc env ρ') s₆ :=
      ⟨as.gens.trans g, as.os.trans o, ext, ⟨fun b ob hb hn q => as.keep b ob hn (st.keep b ob hb q), st.fresh⟩, as.ok, as.env⟩
    refine eq_l hσ ?_
    exact p.liftO H.own (leaveC all sb hC hCx fun h ι' en hk sb' => ⟨en.ext sb'.extBut hCL hCC, rfl⟩)
theorem all_ex (F : Facts w cf K h₀ n) : ∀ N : Nat, ∀ st : Stmt, sizeOf st < N → ExOK w cf h₀ n st
  | 0, st, h => by exact (lin [_] (.h 1 1 (.v 0) (.c 0) .f) rfl h).elim
  | N + 1, st, h => by
    have iex : ∀ x, EvOK w cf h₀ n x ∧ TstOK w cf h₀ n x := fun x => all_sound F _ x (Nat.lt_succ_self _)
    have ihs : ∀ ss : List Stmt, sizeOf ss ≤ N → ∀ st ∈ ss, ExOK w cf h₀ n st := fun ss hs st hst => all_ex F N st (by have := List.sizeOf_lt_of_mem hst; exact lin [_,_,_] (.h 1 0 (.v 0) (.v 1) (.h 1 1 (.v 2) (.v 0) (.g 1 1 (.v 2) (.v 1)))) rfl hs this)
    have dead : (∀ (P : Prm) (cf : CF) sc ρ, ex P cf sc ρ st = fail) → ExOK w cf h₀ n st := fun h1 cls env sc ρ A E s ι σ σ' r H k e he => by
      rw [h1] at he; exact (fail_iff.mp he).elim
    cases st with
    | Expr x pos => exact ex_expr (iex x).1
    | Pass pos => exact ex_pass
    | Break pos => exact ex_break
    | Return v pos => exact ex_ret fun x _ => (iex x).1
    | Assign ts value pos =>
      cases ts with
      | nil => exact dead fun _ _ _ _ => rfl
      | cons t r =>
        cases r with
        | nil => exact ex_assign F (iex value).1 (fun elt gens _ _ _ => ⟨(iex elt).1, fun g _ _ => ⟨(iex g.iter).1, fun f _ => (iex f).2⟩⟩) (fun o _ _ _ => (iex o).1) (fun o i _ _ => ⟨(iex o).1, (iex i).1⟩)
        | cons _ _ => exact dead fun _ _ _ _ => rfl
    | If t body orelse pos => exact ex_if (iex t).2 (ihs body (by simp at h; exact lin [_,_,_,_,_] (.h 1 1 (.a (.a (.a (.a (.c 1) (.v 0)) (.v 1)) (.v 2)) (.v 3)) (.a (.v 4) (.c 1)) (.g 1 0 (.v 1) (.v 4))) rfl h)) (ihs orelse (by simp at h; exact lin [_,_,_,_,_] (.h 1 1 (.a (.a (.a (.a (.c 1) (.v 0)) (.v 1)) (.v 2)) (.v 3)) (.a (.v 4) (.c 1)) (.g 1 0 (.v 2) (.v 4))) rfl h))
    | While t body orelse pos =>
      cases orelse with
      | nil => exact ex_while (iex t).2 (ihs body (by simp at h; exact lin [_,_,_,_] (.h 1 1 (.a (.a (.a (.a (.c 1) (.v 0)) (.v 1)) (.c 1)) (.v 2)) (.a (.v 3) (.c 1)) (.g 1 0 (.v 1) (.v 3))) rfl h))
      | cons _ _ => exact dead fun _ _ _ _ => rfl
    | For t iter body orelse pos =>
      cases orelse with
      | nil => exact ex_for (iex iter).1 (ihs body (by simp at h; exact lin [_,_,_,_,_] (.h 1 1 (.a (.a (.a (.a (.a (.c 1) (.v 0)) (.v 1)) (.v 2)) (.c 1)) (.v 3)) (.a (.v 4) (.c 1)) (.g 1 0 (.v 2) (.v 4))) rfl h))
      | cons _ _ => exact dead fun _ _ _ _ => rfl
    | _ => exact dead fun _ _ _ _ => rfl
end
end Mine
end
section
open PySem PySem.W PyProof.Rows PySem.Spec
set_option maxRecDepth 100000
namespace Mine
theorem zip_lookup : ∀ {ps : List Str} {vals : List Value}, vals.length = ps.length → ps.Nodup → ∀ (i : Nat) (x : Str) (v : Value), ps[i]? = some x → vals[i]? = some v → (ps.zip vals).lookup x = some v
  | p :: ps, v :: vals, hl, hn, 0, x, u, h1, h2 => by simp at h1 h2; subst h1; subst h2; simp
  | p :: ps, v :: vals, hl, hn, i + 1, x, u, h1, h2 => by
    obtain ⟨hp, hn⟩ := List.nodup_cons.mp hn
    simp only [List.getElem?_cons_succ] at h1 h2
    have hx : x ∈ ps := List.mem_of_getElem? h1
    have : (x == p) = false := by simpa using fun q : x = p => hp (q ▸ hx)
    rw [List.zip_cons_cons, List.lookup_cons, this]
    exact zip_lookup (by simpa using hl) hn i x u h1 h2
  | [], _, _, _, i, x, v, h1, _ => by simp at h1
  | _ :: _, [], hl, _, _, _, _, _, _ => by simp at hl
theorem zip_filterMap : ∀ {ps : List Str} {vals : List Value} (L : List (Str × Value)), vals.length = ps.length → (∀ (i : Nat) x v, ps[i]? = some x → vals[i]? = some v → L.lookup x = some v) → ps.filterMap (fun n => (L.lookup n).map (n, ·)) = ps.zip vals
  | [], vals, L, hl, _ => by
    have : vals = [] := List.length_eq_zero_iff.mp hl
    subst this; rfl
  | p :: ps, [], L, hl, _ => by simp at hl
  | p :: ps, v :: vals, L, hl, h => by
    have h0 := h 0 p v rfl rfl
    rw [List.filterMap_cons]
    simp only [h0, Option.map_some]
    rw [List.zip_cons_cons, zip_filterMap L (by simpa using hl) fun i x u h1 h2 => h (i + 1) x u (by simpa using h1) (by simpa using h2)]
structure PlainFn (fd : FuncData) (ps : List Str) : Prop where
  po : fd.params.posonlyargs = []
  ar : fd.params.args.map (·.arg) = ps
  ko : fd.params.kwonlyargs = []
  va : fd.params.vararg = none
  kw : fd.params.kwarg = none
  df : fd.defaults = .none
theorem bind_plain {fd : FuncData} {ps : List Str} {vals : List Value} (h : PlainFn fd ps) (hl : vals.length = ps.length) (hn : ps.Nodup) : bindArgs fd ⟨vals, []⟩ = pure (ps.zip vals) := by
  have hf := zip_filterMap (ps.zip vals) hl (fun i x v h1 h2 => zip_lookup hl hn i x v h1 h2)
  have hmiss : (ps.filter fun n => ((ps.zip vals).lookup n).isNone) = [] := by
    rw [List.filter_eq_nil_iff]
    intro x hx
    obtain ⟨i, hi, e⟩ := List.mem_iff_getElem.mp hx
    have hv : i < vals.length := by exact lin [_,_,_] (.h 1 3 (.v 0) (.v 1) (.h 1 1 (.v 2) (.v 1) (.g 1 1 (.v 2) (.v 0)))) rfl hl hi
    have := zip_lookup hl hn i x vals[i] (by rw [List.getElem?_eq_getElem hi, e]) (List.getElem?_eq_getElem hv)
    rw [this]; simp
  obtain ⟨h1, h2, h3, h4, h5, h6⟩ := h
  obtain ⟨fname, fqual, ⟨po, ar, va, ko, kd, kw, df0⟩, body, scope, gl, clo, df, x1, x2, x3, x4, x5, x6, x7⟩ := fd
  dsimp only at h1 h2 h3 h4 h5 h6
  subst h1 h2 h3 h4 h5 h6
  have c1 : ¬ (decide (vals.length > (ar.map (·.arg)).length) && (Option.none : Option Arg).isNone) = true := by rw [hl]; simp
  have c2 : ∀ d : List Value, d = [] → ¬ (!(((ar.map (·.arg)).take ((ar.map (·.arg)).length - d.length)).filter fun n => (((ar.map (·.arg)).zip vals).lookup n).isNone).isEmpty) = true := fun d hd => by
    rw [hd, List.length_nil, Nat.sub_zero, List.take_length, hmiss]; simp
  refine (if_neg c1).trans ((if_neg (c2 _ List.drop_nil)).trans ?_)
  simp only [List.map_nil, List.nil_append, List.forIn_nil, List.append_nil]
  have pb : ∀ {α β : Type} (a : α) (f : α → Sem β), (pure a >>= f) = f a := fun _ _ => rfl
  simp only [pb, List.isEmpty_nil, Bool.not_true, Bool.false_eq_true, if_false]
  have e0 : ∀ d : List Value, d = [] → ∀ ps : List Str, ps.zip d = [] := fun d hd ps => by rw [hd, List.zip_nil_right]
  rw [e0 (((Option.none : Option (Array Value)).getD #[]).toList.drop _) List.drop_nil, List.forIn_nil, pb, hf]
end Mine
end
section
open PySem PySem.W PyProof.Rows PySem.Spec
set_option maxRecDepth 100000
namespace Mine
structure FnAt (K : Frag) (f : Addr) (d : Fd) : Prop where
  obj : ∃ c di fd sl, K.lookup f = some ⟨c, di, .func fd, sl⟩ ∧ fd.body = .stmts d.body ∧ fd.scope = d.scope ∧ fd.globals = mainGlobals ∧ fd.builtins = builtinsNs ∧ fd.closure = [] ∧ PlainFn fd d.params ∧ codeIn K fd.code fd.qualname = true
  fn : isFn K (.ref f) = true
  keep : keepIn K (.ref f) = true
theorem nodupB_nodup : ∀ {l : List Str}, nodupB l = true → l.Nodup
  | [], _ => List.nodup_nil
  | x :: r, h => by
    simp only [qnd, Bool.and_eq_true, Bool.not_eq_true'] at h
    exact List.nodup_cons.mpr ⟨by simpa using h.1, nodupB_nodup h.2⟩
theorem bindAll_dom : ∀ (ps : List Str) (vs : List V) (ρ : Rho) (x : Str) (v : V), bindAll ps vs ρ x = some v → x ∈ ps ∨ ρ x = some v
  | [], _, _, x, v, h => .inr h
  | p :: ps, [], _, x, v, h => .inr h
  | p :: ps, u :: vs, ρ, x, v, h => by
    rcases bindAll_dom ps vs _ x v h with q | q
    · exact .inl (List.mem_cons_of_mem _ q)
    · unfold upd at q
      by_cases e : x = p
      · exact .inl (by simp [e])
      · rw [if_neg e] at q; exact .inr q
theorem binds_ok {cls : Cx} {h : Heap} {ι : List Addr} (kindOf : Str → Option NameKind) : ∀ (ps : List Str) (vs : List V) (us : List Value) (ρ : Rho) (m cm : Str → Option Value), Dens cls h ι vs us →
    (∀ x v, ρ x = some v → (kindOf x = some .local → ∃ w, m x = some w ∧ Den cls h ι v w) ∧ (kindOf x ≠ some .local → ∃ w, cm x = some w ∧ Den cls h ι v w)) →
    ∀ x v, bindAll ps vs ρ x = some v → (kindOf x = some .local → ∃ w, bindL kindOf (ps.zip us) m x = some w ∧ Den cls h ι v w) ∧ (kindOf x ≠ some .local → ∃ w, bindC kindOf (ps.zip us) cm x = some w ∧ Den cls h ι v w)
  | [], vs, us, ρ, m, cm, _, h0, x, v, hx => by
    exact h0 x v hx
  | p :: ps, [], us, ρ, m, cm, d, h0, x, v, hx => by
    rw [show us = [] from d]
    exact h0 x v hx
  | p :: ps, u :: vs, _, ρ, m, cm, ⟨w, us, rfl, du, dus⟩, h0, x, v, hx => by
    rw [List.zip_cons_cons]
    unfold bindL bindC
    refine binds_ok kindOf ps vs us (upd ρ p u) _ _ dus (fun y z hy => ?_) x v hx
    unfold upd at hy
    by_cases e : y = p
    · subst e
      simp only [if_true, Option.some.injEq] at hy
      refine eq_r hy ?_
      refine ⟨fun hk => ⟨w, ?_, du⟩, fun hk => ⟨w, ?_, du⟩⟩
      · rw [if_pos hk]; simp
      · rw [if_neg hk]; simp
    · rw [if_neg e] at hy
      obtain ⟨a, b⟩ := h0 y z hy
      refine ⟨fun hk => ?_, fun hk => ?_⟩
      · refine el_EA (a hk) fun w' q d' => ?_
        refine ⟨w', ?_, d'⟩
        split
        · simp only [e, if_false]; exact q
        · exact q
      · refine el_EA (b hk) fun w' q d' => ?_
        refine ⟨w', ?_, d'⟩
        split
        · exact q
        · simp only [e, if_false]; exact q
section
variable {w : World} {cf : CF} {K : Frag} {h₀ : Heap} {n : Nat}
variable {A : Around} {E : Value → Shared → Prop} {s : Shared} {cls : Cx} {ι : List Addr} {σ σ' : Sg}
theorem callFd_code (F : Facts w cf K h₀ n) (hlim : h₀.NoLimit) {f : Addr} {d : Fd} (hf : FnAt K f d) {args : List V} {vals : List Value} {x : V} (hcm : cls.c = cm) (R : Room (n + 1) A) (k : Ok cls h₀ s.heap ι σ) (ds : Dens cls s.heap ι args vals)
    (he : callFd P cf d args σ = some (x, σ')) : codeAny (model prog w) A (.call (.ref f) ⟨vals, []⟩) (CodeR E (Ret cls h₀ ι s σ' x)) s := by
  unfold callFd at he
  refine check_e he fun hc e0' => ?_
  refine el_EEA (bind_iff.mp e0') fun hn0_ σ1 e1 e2 => ?_
  obtain ⟨fl, ρ'⟩ := hn0_
  simp only [Bool.and_eq_true, beq_iff_eq] at hc
  obtain ⟨hok, hlen⟩ := hc
  unfold fdOk at hok
  simp only [Bool.and_eq_true, beq_iff_eq, Bool.not_eq_true'] at hok
  obtain ⟨⟨⟨⟨⟨⟨hkind, hnd⟩, hpn⟩, hown⟩, hnf⟩, hco⟩, hgen⟩ := hok
  have hown := fun y hy => List.all_eq_true.mp hown y hy
  refine el_EEEEAA hf.obj fun c di fd sl hob hbody hr1_ => ?_
  refine el_AAAAA hr1_ fun hscope hgl hbl hclo hplain hcode => ?_
  have X := F.X.keeps k.stay
  have hvl := Dens.length ds
  have hnofree : ∀ y, d.scope.names.lookup y ≠ some .free := fun y q => by
    have := List.all_eq_true.mp hnf _ (mem_of_lookup q)
    simp at this
  have ownK : ∀ y, isOwn d.scope y = true → nameOk y = true ∧ (d.scope.names.lookup y = some .local ∨ d.scope.names.lookup y = some .cell) := fun y q => by
    unfold isOwn at q
    simp only [Bool.and_eq_true, Bool.or_eq_true, beq_iff_eq] at q
    exact ⟨q.2, q.1⟩
  generalize hB : s.heap.push { cls := .type "frame", data := .dict #[] } = B
  have hBs : B.objs.size = s.heap.objs.size + 1 := by rw [← hB]; exact Heap.size_push ..
  obtain ⟨b1, b2, b3, b4, b5⟩ := cells_spec B.objs.size d.scope.names B [] (fun x c q => by simp at q) (fun x y c q => by simp at q) (fun x c q => by simp at q) (Nat.le_refl _)
  rw [hBs] at b1 b2 b3 b4 b5
  have hcellOf : ∀ y c, (cellsFrom (s.heap.objs.size + 1) d.scope.names []).lookup y = some c → d.scope.names.lookup y = some .cell := fun y c q => by
    by_cases hm : (y, NameKind.cell) ∈ d.scope.names
    · exact nodupB_mem hnd hm
    · rw [b5 y hm] at q; simp at q
  have hhas : ∀ y, d.scope.names.lookup y = some .cell → ∃ c, (cellsFrom (s.heap.objs.size + 1) d.scope.names []).lookup y = some c := fun y q => by
    refine el_EA (b4 y (.inr (mem_of_lookup q))) fun c q _ => ?_
    exact ⟨c, q⟩
  refine codeAny_call_cells (fd := fd) (body := d.body) (binds := d.params.zip vals) (by have := R.dep; exact lin [_,_] (.h 1 1 (.a (.a (.v 0) (.m 4 (.a (.v 1) (.c 1)))) (.c 10)) (.c 1000) (.g 1 1 (.v 0) (.c 1000))) rfl this) (X f _ hob) rfl (hlim.keeps k.stay) (codeRec_of X hcode) hbody (bind_plain hplain (by exact Nat.le_antisymm (lin [_,_,_] (.h 1 2 (.v 0) (.v 1) (.h 1 2 (.v 2) (.v 0) (.g 1 0 (.v 2) (.v 1)))) rfl hlen hvl) (lin [_,_,_] (.h 1 3 (.v 0) (.v 1) (.h 1 3 (.v 2) (.v 0) (.g 1 0 (.v 1) (.v 2)))) rfl hlen hvl)) (nodupB_nodup hpn)) hclo (fun y hy => ?_) (fun s₁ ic => ?_) (by rw [hscope]; exact hco) (by rw [hscope]; exact hgen) (by rw [hscope]; exact hkind)
  · rw [hscope]
    have hm : y.1 ∈ d.params := by
      obtain ⟨a, b⟩ := y
      exact (List.of_mem_zip hy).1
    rcases (ownK _ (hown _ hm)).2 with q | q
    · exact .inl q
    · obtain ⟨c, hc⟩ := hhas _ q
      exact .inr ⟨q, by rw [hc]; rfl⟩
  · have hcells : (callEnvC fd s.heap.objs.size f).cells = cellsFrom (s.heap.objs.size + 1) d.scope.names [] := by
      show cellsFrom (s.heap.objs.size + 1) fd.scope.names [] = _
      rw [hscope]
    have hloc : (callEnvC fd s.heap.objs.size f).locals = s.heap.objs.size := rfl
    have hsc : (callEnvC fd s.heap.objs.size f).scope = d.scope := hscope
    have hko : ∀ y, (callEnvC fd s.heap.objs.size f).kindOf y = d.scope.names.lookup y := fun y => by
      show (callEnvC fd s.heap.objs.size f).scope.names.lookup y = _
      rw [hsc]
    have hgl' : (callEnvC fd s.heap.objs.size f).globals = mainGlobals := hgl
    have hbl' : (callEnvC fd s.heap.objs.size f).builtins = builtinsNs := hbl
    generalize henv : callEnvC fd s.heap.objs.size f = env at ic hcells hloc hsc hko hgl' hbl' ⊢
    have es : EnvSt d.scope env := {
      fn := by rw [hsc]; exact hkind
      gl := hgl'
      bl := hbl'
      km := fun y _ => hko y
      kf := fun y q => absurd q (hnofree y)
      apart := fun y z c q1 q2 => by rw [hcells] at q1 q2; exact b2 y z c q1 q2
      lc := fun y q => by
        have := ic.above y _ (mem_of_lookup q)
        exact absurd this (Nat.lt_irrefl _)
      own := fun y q => by rw [hcells]; exact hhas y q
      fre := fun y q => absurd q (hnofree y) }
    refine el_EEA ic.done fun h' tk hs1 hkeep => ?_
    have hL : s.heap.get? env.locals = none := by rw [hloc]; exact get?_size _
    have hC : ∀ y c, env.cells.lookup y = some c → s.heap.get? c = none := fun y c q => by
      have := ic.above y c (mem_of_lookup q)
      rw [hloc] at this
      exact Heap.get?_none_of_le (Nat.le_of_lt this)
    have hfresh : ∀ b, OwnAt d.scope env b → s.heap.get? b = none := fun b hb => by
      rcases hb with rfl | ⟨y, _, q⟩
      · exact hL
      · exact hC y b q
    have hthere : ∀ b, OwnAt d.scope env b → ∃ o, s₁.heap.get? b = some o := fun b hb => by
      rcases hb with rfl | ⟨y, _, q⟩
      · obtain ⟨o, _, _, z, _⟩ := ic.toInCall.ns; exact ⟨o, z⟩
      · obtain ⟨o, z, _⟩ := ic.cell y b q; exact ⟨o, z⟩
    have hk1 : ∀ b o, s.heap.get? b = some o → s₁.heap.get? b = some o := fun b o z => by rw [hs1]; exact hkeep b o z
    have k1 : Ok (cls.plus (OwnAt d.scope env)) h₀ s₁.heap ι σ := k.plus hfresh hk1 hthere
    have fe : FrameEx (cls.plus (OwnAt d.scope env)) env := ⟨.inr (.inl rfl), fun y c q => .inr (.inr ⟨y, hcellOf y c (by rw [← hcells]; exact q), q⟩)⟩
    have ds1 : Dens (cls.plus (OwnAt d.scope env)) s₁.heap ι args vals := Dens.kx (fun b o _ z => hk1 b o z) _ _ (Dens.plus hfresh _ _ ds)
    have hbinds := binds_ok (h := s₁.heap) env.kindOf d.params args vals (fun _ => none) (fun _ => none) (fun _ => none) ds1 (fun _ _ q => (fail_e q))
    have en1 : EnvOK (cls.plus (OwnAt d.scope env)) s₁.heap ι d.scope env (bindAll d.params args fun _ => none) := {
      ns := ⟨_, ic.toInCall.ns, fun y v h1 h2 => (hbinds y v h2).1 (by rw [hko]; exact h1)⟩
      ce := fun y c hc => ⟨_, ic.cell y c hc, fun v h1 h2 => by
        obtain ⟨u, q, du⟩ := (hbinds y v h2).2 (by rw [hko, hcellOf y c (by rw [← hcells]; exact hc)]; simp)
        exact ⟨u, q, du⟩⟩
      dom := fun y v h2 => by
        rcases bindAll_dom _ _ _ y v h2 with hm | hm
        · obtain ⟨h3, h4⟩ := ownK y (hown y hm)
          refine ⟨h3, ?_⟩
          rcases h4 with h4 | h4
          · exact .inl h4
          · exact .inr ⟨.inl h4, by rw [hcells]; exact hhas y h4⟩
        · cases hm }
    have H : Here n (cls.plus (OwnAt d.scope env)) d.scope env (A.deeper env) := ⟨⟨R.hd, by have := R.dep; simp only [Around.deeper]; exact lin [_,_] (.h 1 1 (.a (.a (.v 0) (.m 4 (.a (.v 1) (.c 1)))) (.c 10)) (.c 1000) (.g 1 1 (.a (.a (.a (.v 0) (.c 1)) (.m 4 (.v 1))) (.c 12)) (.c 1000))) rfl this, by have := R.un; simp only [Around.deeper]; exact lin [_,_] (.h 1 1 (.a (.a (.v 0) (.m 40 (.a (.v 1) (.c 1)))) (.c 400)) (.c 9900) (.g 1 1 (.a (.a (.a (.v 0) (.c 3)) (.m 40 (.v 1))) (.c 420)) (.c 9900))) rfl this⟩, hcm, fe, es⟩
    refine wpAny_mono (exs_sound d.body (cls.plus (OwnAt d.scope env)) _ _ s₁ ι σ σ1 (fl, ρ') (fun st _ => all_ex F _ st (Nat.lt_succ_self _)) H k1 en1 e1) (fun fw s₂ a => ?_) fun _ _ z => z
    refine a.elim fun g o ext st k2 rr_ => ?_
    obtain ⟨_, fd2⟩ := rr_
    have hgs : s₁.gens = s.gens := by rw [hs1]
    have hos : s₁.os = s.os := by rw [hs1]
    have st' : Step ι ext s.heap s₂.heap := ⟨fun b ob hb z => st.keep b ob hb (fun q => by rw [hfresh b q] at z; cases z) (hk1 b ob z), fun b hb => by
      cases z : s.heap.get? b with
      | none => rfl
      | some ob => have := st.fresh b hb; rw [hk1 b ob z] at this; cases this⟩
    have fin : ∀ {v : V} {u : Value}, Den (cls.plus (OwnAt d.scope env)) s₂.heap (ι ++ ext) v u → Ret cls h₀ ι s σ1 v u s₂ := fun dd => ⟨g.trans hgs, o.trans hos, ext, st', k2.minus, Den.minus _ _ dd⟩
    cases fl with
    | next =>
      refine pure_e e2 ?_
      have : fw = .next := fd2
      refine eq_l this ?_
      exact fin (v := .none) rfl
    | brk =>
      refine pure_e e2 ?_
      have : fw = .brk := fd2
      refine eq_l this ?_
      exact fin (v := .none) rfl
    | ret v =>
      refine pure_e e2 ?_
      refine el_EA fd2 fun u hq1_ du => ?_
      refine eq_l hq1_ ?_
      exact fin du
end
end Mine
end
section
open PySem PySem.W PyProof.Rows PySem.Spec
set_option maxRecDepth 100000
namespace Mine
structure InitAt (prog : Program) (K : Frag) (f C cc pf cda : Addr) (pi : Fd) (body : List Stmt) : Prop where
  fobj : ∃ c di fd sl ar, K.lookup f = some ⟨c, di, .func fd, sl⟩ ∧ fd.body = .stmts body ∧ fd.globals = mainGlobals ∧ fd.builtins = builtinsNs ∧ fd.closure = [(("__class__" : Str), cc)] ∧ PlainFn fd ["self", "taken", "value", "n"] ∧ codeIn K fd.code fd.qualname = true ∧
    fd.code = .ref cda ∧ (fd.params.posonlyargs ++ fd.params.args).head? = some ar ∧ ar.arg = ("self" : Str) ∧ fd.scope.kind = .function ∧ fd.scope.isCoroutine = false ∧ fd.scope.isGenerator = false ∧ (∀ x ∈ fd.scope.names, x.2 ≠ .cell) ∧
    fd.scope.names.lookup ("self" : Str) = some .local ∧ fd.scope.names.lookup ("taken" : Str) = some .local ∧ fd.scope.names.lookup ("value" : Str) = some .local ∧ fd.scope.names.lookup ("n" : Str) = some .local ∧
    fd.scope.names.lookup ("__class__" : Str) = some .free ∧ fd.scope.names.lookup ("super" : Str) = some .globalImplicit ∧ fd.scope.names.lookup ("tuple" : Str) = some .globalImplicit
  cell : ∃ c di sl, K.lookup cc = some ⟨c, di, .cell (some (.ref C)), sl⟩
  code : ∃ c di vs sl file tf, K.lookup cda = some ⟨c, di, .fields vs, sl⟩ ∧ vs[2]? = some (.str file tf) ∧ (prog.main.file == file) = true
  top : (prog.main.scope.names.lookup ("super" : Str)).isSome = false
  cls : ∃ cd l₀ l, clsIn K C = some cd ∧ cd.mro = l₀ ∧ (l₀.dropWhile (· != .ref C)).drop 1 = l ∧ alongIn K "__init__" l = some (some (.ref pf))
  mro : mroIn K C (.ref C) = some true
  third : nsIn K cStatics "thirdparty.any" = some none
  fn : isFn K (.ref f) = true
  keep : keepIn K (.ref f) = true
  prop : FnAt K pf pi
theorem Path.trans {cls : Cx} {h₀ : Heap} {ι ι₁ ι₂ : List Addr} {s s₁ s₂ : Shared} {σ : Sg} (p : Path ι s ι₁ s₁) (q : Path ι₁ s₁ ι₂ s₂) (k : Ok cls h₀ s₂.heap ι₂ σ) : Path ι s ι₂ s₂ := by
  obtain ⟨ext, rfl, st⟩ := p.ex
  obtain ⟨ext', rfl, st'⟩ := q.ex
  have a : After cls h₀ (ι ++ ext) s₁ σ (fun _ ι' => ι' = (ι ++ ext) ++ ext') s₂ := ⟨q.gens, q.os, ext', st', k, rfl⟩
  have b := After.trans p.gens p.os st rfl a (R := fun _ ι' => ι' = (ι ++ ext) ++ ext') fun _ _ _ z => z
  refine b.elim fun g o e2 st2 _ he => ?_
  exact ⟨g, o, e2, he.symm, st2⟩
noncomputable abbrev i_p0 : Pos := ⟨167, 8, 167, 13⟩
noncomputable abbrev i_p1 : Pos := ⟨167, 8, 167, 15⟩
noncomputable abbrev i_ap : Pos := ⟨167, 8, 167, 24⟩
noncomputable abbrev i_q0 : Pos := ⟨167, 25, 167, 30⟩
noncomputable abbrev i_q1 : Pos := ⟨167, 31, 167, 36⟩
noncomputable abbrev i_q2 : Pos := ⟨167, 25, 167, 37⟩
noncomputable abbrev i_q3 : Pos := ⟨167, 41, 167, 42⟩
noncomputable abbrev i_q4 : Pos := ⟨167, 40, 167, 44⟩
noncomputable abbrev i_q5 : Pos := ⟨167, 25, 167, 44⟩
noncomputable abbrev i_q6 : Pos := ⟨167, 46, 167, 54⟩
noncomputable abbrev i_p2 : Pos := ⟨167, 8, 167, 55⟩
noncomputable abbrev i_p3 : Pos := ⟨167, 8, 167, 55⟩
noncomputable abbrev i_a1 : Pos := ⟨168, 8, 168, 12⟩
noncomputable abbrev i_a2 : Pos := ⟨168, 8, 168, 18⟩
noncomputable abbrev i_a3 : Pos := ⟨168, 21, 168, 26⟩
noncomputable abbrev i_a4 : Pos := ⟨168, 27, 168, 32⟩
noncomputable abbrev i_a5 : Pos := ⟨168, 21, 168, 33⟩
noncomputable abbrev i_a6 : Pos := ⟨168, 8, 168, 33⟩
noncomputable abbrev i_b1 : Pos := ⟨169, 8, 169, 12⟩
noncomputable abbrev i_b2 : Pos := ⟨169, 8, 169, 18⟩
noncomputable abbrev i_b3 : Pos := ⟨169, 21, 169, 26⟩
noncomputable abbrev i_b4 : Pos := ⟨169, 8, 169, 26⟩
noncomputable abbrev i_c1 : Pos := ⟨170, 8, 170, 12⟩
noncomputable abbrev i_c2 : Pos := ⟨170, 8, 170, 14⟩
noncomputable abbrev i_c3 : Pos := ⟨170, 17, 170, 18⟩
noncomputable abbrev i_c4 : Pos := ⟨170, 8, 170, 18⟩
noncomputable abbrev i_k0 : Nat := 0
noncomputable abbrev i_kk : Nat := 0
theorem i_line : i_ap.endLine = i_p2.line := rfl
section
variable {w : World} {cf : CF} {K : Frag} {h₀ : Heap} {n : Nat}
variable {A : Around} {E : Value → Shared → Prop} {s : Shared} {cls : Cx} {ι : List Addr} {σ σ' : Sg}
theorem name_local {env : Env} {m : Str → Option Value} {x : Str} {pos : Pos} {v : Value} {Q : Value → Shared → Prop} (hk : env.scope.kind = .function) (hl : env.kindOf x = some .local) (hn : s.heap.Ns env.locals m) (hv : m x = some v) (h : Q v s) (hd : (x == ("__debug__" : Str)) = false) :
    wpAny (model prog w) A (eval (.Name x pos) env) Q E s := wpAny_Name (wpAny_loadName_local hk hl hn hv h) hd
theorem glob_load (F : Facts w cf K h₀ n) {env : Env} {f : Str} {Q : Value → Shared → Prop} (k : Ok cls h₀ s.heap ι σ) (hk : env.scope.kind = .function) (hx : env.kindOf f = some .globalImplicit) (hgl : env.globals = mainGlobals) (hbl : env.builtins = builtinsNs) (hf : f ∈ bnames) (h : Q (bvalue f) s) :
    wpAny (model prog w) A (loadName env f) Q E s := by
  refine el_EEAA F.G fun mg mb g1 g2 g3 => ?_
  obtain ⟨h1, h2⟩ := g3 f hf
  unfold loadName
  simp only [Env.blockKind, hk, hx, ScopeKind.isAnnotationScope, Bool.false_and, Bool.false_eq_true, if_false]
  refine Calls.loadGlobal_builtin (mg := mg) (mb := mb) ?_ h1 ?_ h2 h
  · rw [hgl]; exact g1.at' fun o e => k.stay _ o e
  · rw [hbl]; exact g2.at' fun o e => k.stay _ o e
theorem asInst_e {v : V} {i : Str × Nat} (h : asInst v = some i) : v = .inst i.1 i.2 := by cases v <;> first | exact congrArg (fun p : Str × Nat => V.inst p.1 p.2) (Option.some.inj h) | exact fail_e h
theorem four_e {vs : List V} {q : V × V × V × V} (h : four vs = some q) : vs = [q.1, q.2.1, q.2.2.1, q.2.2.2] := by
  cases vs with
  | nil => exact fail_e h
  | cons a r => cases r with
    | nil => exact fail_e h
    | cons b r => cases r with
      | nil => exact fail_e h
      | cons c r =>
        refine el_EA (Option.map_eq_some_iff.mp h) fun d h1 h2 => ?_
        rw [one_e h1, ← h2]
theorem countInit_e {pi : Fd} {args : List V} {r : V × Sg} {D : Prop} (he : countInit P pi args σ = some r) (k : ∀ l ts v m, args = [.inst "Count" l, .lst ts, v, .int m] →
    (check (decide (ts.length < lim)) >>= fun _ => callFd P (fun _ _ => fail) pi [.inst ("Count" : Str) l, .tup (ts ++ [.int m]), .str ("values" : Str)] >>= fun _ => setAttrV (.inst ("Count" : Str) l) ("taken" : Str) (.tup ts) >>= fun _ =>
      setAttrV (.inst ("Count" : Str) l) ("value" : Str) v >>= fun _ => setAttrV (.inst ("Count" : Str) l) ("n" : Str) (.int m) >>= fun _ => pure .none) σ = some r → D) : D := by
  refine need_e he fun q hq he1 => ?_
  refine need_e he1 fun i hi he2 => ?_
  refine need_e he2 fun ts hts he3 => ?_
  refine need_e he3 fun m hm he4 => ?_
  refine check_e he4 fun hc he5 => ?_
  have hc : i.1 = ("Count" : Str) := eq_of_beq hc
  rw [hc] at he5
  refine k i.2 ts q.2.2.1 m ?_ he5
  rw [four_e hq, asInst_e hi, asLst_e hts, asInt_e hm, hc]
theorem countInit_sound (F : Facts w (fun _ _ => fail) K h₀ 0) (hlim : h₀.NoLimit) {f C cc pf cda : Addr} {pi : Fd}
    (I : InitAt prog K f C cc pf cda pi [.Expr (.Call (.Attribute (.Call (.Name "super" i_p0) [] [] i_p1) "__init__" i_ap) [.BinOp (.Call (.Name "tuple" i_q0) [.Name "taken" i_q1] [] i_q2) .Add (.Tuple [.Name "n" i_q3] i_k0 i_q4) i_q5, .Constant (.str "values") i_kk i_q6] [] i_p2) i_p3,
      .Assign [.Attribute (.Name "self" i_a1) "taken" i_a2] (.Call (.Name "tuple" i_a3) [.Name "taken" i_a4] [] i_a5) i_a6, .Assign [.Attribute (.Name "self" i_b1) "value" i_b2] (.Name "value" i_b3) i_b4, .Assign [.Attribute (.Name "self" i_c1) "n" i_c2] (.Name "n" i_c3) i_c4])
    (hC : cm "Count" = some C) {args : List V} {vals : List Value} {x : V} (hcm : cls.c = cm) (R : Room 2 A) (k : Ok cls h₀ s.heap ι σ) (ds : Dens cls s.heap ι args vals)
    (he : countInit P pi args σ = some (x, σ')) : codeAny (model prog w) A (.call (.ref f) ⟨vals, []⟩) (CodeR E (Ret cls h₀ ι s σ' x)) s := by
  refine countInit_e he fun l ts v m ha he5 => ?_
  clear he
  subst ha
  refine el_EEAAEE ds fun us r1 hq2_ dself ut r2 hr1_ => ?_
  refine el_AAEEAA hr1_ fun hq6_ dtaken uv r3 hq10_ dval hr2_ => ?_
  refine el_EEAA hr2_ fun un r4 hq14_ hn15_ hq16_ => ?_
  refine eq_l hq2_ ?_
  refine eq_l hq6_ ?_
  refine eq_l hq10_ ?_
  refine eq_l hq14_ ?_
  obtain ⟨tk, rfl⟩ := hn15_
  refine eq_l hq16_ ?_
  refine check_e he5 fun hlen e0' => ?_
  have hlen := of_decide_eq_true hlen
  refine bind_e e0' fun rv σ2 e1 e2 => ?_
  obtain ⟨⟨⟩, σ3, e3, e4⟩ := bind_iff.mp e2
  obtain ⟨⟨⟩, σ4, e5, e6⟩ := bind_iff.mp e4
  obtain ⟨⟨⟩, σ5, e7, e8⟩ := bind_iff.mp e6
  refine pure_e e8 ?_
  refine el_EEEEEA I.fobj fun cF diF fd slF ar hob hr1_ => ?_
  refine el_AAAAAA hr1_ fun hbody hgl hbl hclo hplain hcode hr2_ => ?_
  refine el_AAAAAA hr2_ fun hcda hp har hkind hco hgen hr3_ => ?_
  refine el_AAAAAAA hr3_ fun hnc n1 n2 n3 n4 n5 n6 n7 => ?_
  have X := F.X.keeps k.stay
  refine codeAny_call_function (fd := fd) (by have := R.dep; exact lin [_] (.h 1 1 (.a (.a (.v 0) (.m 4 (.c 2))) (.c 10)) (.c 1000) (.g 1 1 (.v 0) (.c 1000))) rfl this) (X f _ hob) rfl hco hgen hbody (codeRec_of X hcode) ?_
  rw [bind_plain hplain rfl (by decide), hclo]
  refine wpAny_pure (wpAny_newFunctionEnv hnc (fun y hy => ?_) (fun h1 hns hsb => ?_) hkind)
  · simp only [List.zip_cons_cons, List.zip_nil_left, List.mem_cons, List.not_mem_nil, or_false] at hy
    rcases hy with rfl | rfl | rfl | rfl
    · exact n1
    · exact n2
    · exact n3
    · exact n4
  have hk1 : ∀ b o, s.heap.get? b = some o → h1.get? b = some o := fun b o q => hsb.extBut b o (addr_ne (Heap.lt_size q)) (Heap.get?_push_of_some _ q)
  refine ⟨(hlim.keeps k.stay).keeps hk1, ks_codeAny_funcAt ?_⟩
  generalize hm : (fun x => (List.zip (["self", "taken", "value", "n"] : List Str) [us, ut, uv, Value.int m tk]).reverse.lookup x) = mm at hns
  have m1 : mm "self" = some us := by rw [← hm]; rfl
  have m2 : mm "taken" = some ut := by rw [← hm]; rfl
  have m3 : mm "value" = some uv := by rw [← hm]; rfl
  have m4 : mm "n" = some (.int m tk) := by rw [← hm]; rfl
  generalize htoks : s.toks + (List.zip (["self", "taken", "value", "n"] : List Str) [us, ut, uv, Value.int m tk]).length = toks1
  have henvL : (newEnv fd.scope s.heap.objs.size fd.globals [(("__class__" : Str), cc)] (fd.qualname ++ ".<locals>.") (some f) fd.code none fd.builtins).locals = s.heap.objs.size := rfl
  have henvS : (newEnv fd.scope s.heap.objs.size fd.globals [(("__class__" : Str), cc)] (fd.qualname ++ ".<locals>.") (some f) fd.code none fd.builtins).scope = fd.scope := rfl
  have henvG : (newEnv fd.scope s.heap.objs.size fd.globals [(("__class__" : Str), cc)] (fd.qualname ++ ".<locals>.") (some f) fd.code none fd.builtins).globals = mainGlobals := hgl
  have henvB : (newEnv fd.scope s.heap.objs.size fd.globals [(("__class__" : Str), cc)] (fd.qualname ++ ".<locals>.") (some f) fd.code none fd.builtins).builtins = builtinsNs := hbl
  have henvC : (newEnv fd.scope s.heap.objs.size fd.globals [(("__class__" : Str), cc)] (fd.qualname ++ ".<locals>.") (some f) fd.code none fd.builtins).cells.lookup ("__class__" : Str) = some cc := rfl
  have henvF : (newEnv fd.scope s.heap.objs.size fd.globals [(("__class__" : Str), cc)] (fd.qualname ++ ".<locals>.") (some f) fd.code none fd.builtins).func = some f := rfl
  have henvO : (newEnv fd.scope s.heap.objs.size fd.globals [(("__class__" : Str), cc)] (fd.qualname ++ ".<locals>.") (some f) fd.code none fd.builtins).code = .ref cda := hcda
  generalize newEnv fd.scope s.heap.objs.size fd.globals [(("__class__" : Str), cc)] (fd.qualname ++ ".<locals>.") (some f) fd.code none fd.builtins = env at henvL henvS henvG henvB henvC henvF henvO ⊢
  have hko : ∀ y, env.kindOf y = fd.scope.names.lookup y := fun y => by unfold Env.kindOf; rw [henvS]
  have hkf : env.scope.kind = .function := by rw [henvS]; exact hkind
  have pt1 : Path ι s ι { s with heap := h1, toks := toks1 } := ⟨rfl, rfl, [], by rw [List.append_nil], ⟨fun b o _ q => hk1 b o q, fun _ q => (List.not_mem_nil q).elim⟩⟩
  have k1 : Ok cls h₀ h1 ι σ := k.grow hk1
  rw [← henvL] at hns
  have hLi : ∀ {ι' : List Addr} {s' s'' : Shared} {ι'' : List Addr}, True := fun {_ _ _ _} => trivial
  have hLn : s.heap.get? env.locals = none := by rw [henvL]; exact get?_size _
  have nsAt : ∀ {ι₂ : List Addr} {s₂ : Shared} {σz : Sg}, Path ι { s with heap := h1, toks := toks1 } ι₂ s₂ → s₂.heap.Ns env.locals mm := fun {ι₂ s₂ σz} p => by
    refine el_EA p.ex fun ext _ st => ?_
    exact hns.at' fun o q => st.keep _ o (fun z => by obtain ⟨o', y⟩ := k.has z; rw [hLn] at y; cases y) q
  have nm : ∀ {B : Around} {E : Value → Shared → Prop} {ι₂ : List Addr} {s₂ : Shared} {y : Str} {pos : Pos} {u : Value} {Q : Value → Shared → Prop}, Path ι { s with heap := h1, toks := toks1 } ι₂ s₂ → fd.scope.names.lookup y = some .local → mm y = some u → (y == ("__debug__" : Str)) = false → Q u s₂ →
      wpAny (model prog w) B (eval (.Name y pos) env) Q E s₂ := fun {B E ι₂ s₂ y pos u Q} p hl hv hd q => name_local hkf ((hko y).trans hl) (nsAt (σz := σ) p) hv q hd
  obtain ⟨x0, C', dx, rfl, hxo, hC', hio, hxl⟩ := id dself
  rw [hcm, hC] at hC'; cases hC'
  obtain ⟨cC, diC, slC, hcell⟩ := I.cell
  refine el_EEEEEE I.code fun cD diD vsD slD file tf hr1_ => ?_
  refine el_AA hr1_ fun hcd hvs hfile => ?_
  obtain ⟨cdC, l₀, l', hcls, hmro0, hdrop, halong⟩ := I.cls
  obtain ⟨cO, dO, sO, hClook⟩ : ∃ c d sl, K.lookup C = some ⟨c, d, .cls cdC, sl⟩ := by
    unfold clsIn at hcls
    cases q : K.lookup C with
    | none => rw [q] at hcls; exact fail_e hcls
    | some o =>
      obtain ⟨c, d, dt, sl⟩ := o
      rw [q] at hcls
      cases dt <;> first | exact fail_e hcls | exact ⟨_, _, _, congrArg (fun z => some (⟨c, d, .cls z, sl⟩ : Obj)) (Option.some.inj hcls)⟩
  have X1 : K.In h1 := F.X.keeps k1.stay
  have k1h : ∀ {h2 : Heap}, (∀ b o, h1.get? b = some o → h2.get? b = some o) → Ok cls h₀ h2 ι σ := fun hk => k1.grow hk
  obtain ⟨cP, diP, fdP, slP, hpob, _⟩ := I.prop.obj
  refine ks_wpAt_execs_cons (ks_wpAt_Expr_any ?_ (by unfold interactive; rw [hkf]; rfl) rfl)
  rw [arm_eval_Call]
  refine PySem.wpAt_bind (ks_wpAt_super_base ((hko _).trans n6) ((hko _).trans n5) rfl henvF (X1 f _ hob) rfl hp henvO (X1 cda _ hcd) rfl hvs hfile I.top ?_)
  refine glob_load F (s := { s with heap := h1, toks := toks1 }) k1 hkf ((hko _).trans n6) henvG henvB (by simp [bnames]) ⟨rfl, ?_⟩
  refine wpAny_loadName_free hkf ((hko _).trans n5) henvC ⟨_, X1 cc _ hcell, rfl⟩ ?_
  rw [har]
  refine wpAny_loadName_local hkf ((hko _).trans n1) hns m1 ?_
  refine ks_wpAny_isType_cls (X1 C _ hClook) rfl ⟨rfl, ?_⟩
  refine ks_wpAny_call_super (X1 C _ hClook) rfl (hk1 _ _ hio) rfl (fun c q => (by first | exact fail_e q | exact (List.not_mem_nil q).elim | exact (Bool.false_ne_true q).elim | exact nomatch q)) (looks_mroIn X1 I.mro) fun h2 hso hk2 => ?_
  refine PySem.wpAt_of_wpAny (wpAny_bind (wpAny_standAt ?_))
  have hn : noStar [.BinOp (.Call (.Name "tuple" i_q0) [.Name "taken" i_q1] [] i_q2) .Add (.Tuple [.Name "n" i_q3] i_k0 i_q4) i_q5, .Constant (.str "values") i_kk i_q6] = true := rfl
  have hform := few_form (env := env) (pos := i_p2) hn (by simp)
  have hpos : methodCallPos true (.Call (.Name "super" i_p0) [] [] i_p1) env i_ap i_p2 = pure i_p2 := by unfold methodCallPos; simp [i_line]
  unfold methodCall
  rw [hform]
  have X2 : K.In h2 := X1.keeps hk2
  have hxC : x0 ≠ C := fun q => by
    have h3 := X C _ hClook
    rw [← q, hio] at h3
    cases h3
  have hpt : (⟨cP, diP, .func fdP, slP⟩ : Obj).cls = .type "function" := by
    have ht : typeIn K (.ref pf) = some (.type "function") := beq_iff_eq.mp I.prop.fn
    have ht' : (K.lookup pf).map (·.cls) = some (.type "function") := ht
    rw [hpob] at ht'
    exact Option.some.inj ht'
  have hLC : Looks (model prog w) h2 (mroOf (.ref C)) l₀ := fun A Q E s k q => wpAny_bind ((looks_clsIn X2 hcls) A _ E s k (wpAny_pure (by rw [hmro0]; exact q)))
  refine wpAny_bind (wpAny_holding (ks_wpAny_getMethod_super hso (looks_opaque X2 I.third) hLC hdrop X2 halong (X2 pf _ hpob) hpt hxC rfl ?_))
  refine wpAny_bind (wpAny_of_eq hpos ?_)
  have hfni : fnIn K pf = true := by unfold fnIn; rw [hpob]
  have hk3 : ∀ b o, h1.get? b = some o → (h2.push { cls := .type "method", data := .fields #[.ref pf, .ref x0] }).get? b = some o := fun b o q => Heap.get?_push_of_some _ (hk2 b o q)
  have hbm : (h2.push { cls := .type "method", data := .fields #[.ref pf, .ref x0] }).get? h2.objs.size = some (methodObj (.ref pf) (.ref x0)) := Heap.get?_push_size _ rfl
  have hbnew : h1.get? h2.objs.size = none := by
    cases z : h1.get? h2.objs.size with
    | none => rfl
    | some o => exact absurd (Heap.lt_size (hk2 _ _ z)) (Nat.lt_irrefl _)
  generalize h2.push { cls := .type "method", data := .fields #[.ref pf, .ref x0] } = h3 at hk3 hbm ⊢
  generalize h2.objs.size = bm at hbm hbnew ⊢
  have hbmi : bm ∉ ι := fun z => by
    obtain ⟨o, y⟩ := k1.has z
    rw [hbnew] at y; cases y
  have k3 : Ok cls h₀ h3 ι σ := k1h hk3
  have pt3 : Path ι { s with heap := h1, toks := toks1 } ι { s with heap := h3, toks := toks1 + 1 } := ⟨rfl, rfl, [], by rw [List.append_nil], ⟨fun b o _ q => hk3 b o q, fun _ q => (List.not_mem_nil q).elim⟩⟩
  have RB : Room 1 (A.deeper env) := ⟨R.hd, by have := R.dep; simp only [Around.deeper]; exact lin [_] (.h 1 1 (.a (.a (.v 0) (.m 4 (.c 2))) (.c 10)) (.c 1000) (.g 1 1 (.a (.a (.a (.v 0) (.c 1)) (.m 4 (.c 1))) (.c 10)) (.c 1000))) rfl this, by have := R.un; simp only [Around.deeper]; exact lin [_] (.h 1 1 (.a (.a (.v 0) (.m 40 (.c 2))) (.c 400)) (.c 9900) (.g 1 1 (.a (.a (.a (.v 0) (.c 3)) (.m 40 (.c 1))) (.c 400)) (.c 9900))) rfl this⟩
  have den0 : ∀ {ι₂ : List Addr} {s₂ : Shared} {y : V} {u : Value}, Path ι { s with heap := h1, toks := toks1 } ι₂ s₂ → Den cls s.heap ι y u → Den cls s₂.heap ι₂ y u := fun p d => p.den (pt1.den d)
  show wpAny _ _ (callWith i_p2 (.ref bm) [] (backTo i_p2 (starEach [.BinOp (.Call (.Name "tuple" i_q0) [.Name "taken" i_q1] [] i_q2) .Add (.Tuple [.Name "n" i_q3] i_k0 i_q4) i_q5, .Constant (.str "values") i_kk i_q6] env)) []) _ _ { s with heap := h3, toks := toks1 + 1 }
  refine callWith_of (P := MethP K bm pf (.ref x0)) (by rw [star_plain i_p2 env hn]; rfl) (keeps_M hfni) (args_of hn ?_)
  have hB : ∀ σz : Sg, callB ("tuple" : Str) [.lst ts] σz = some (.tup ts, σz) := fun σz => by
    show (check (decide (ts.length ≤ lim)) >>= fun _ => pure (V.tup ts) : M V) σz = _
    exact (bind_iff.mpr ⟨(), σz, check_iff.mpr ⟨decide_eq_true (Nat.le_of_lt hlen), rfl⟩, pure_iff.mpr rfl⟩)
  have tupleOf : ∀ {E : Value → Shared → Prop} {ι₂ : List Addr} {s₂ : Shared} {σz : Sg} {pos pos' pos'' : Pos} {Q : Value → Shared → Prop}, Path ι { s with heap := h1, toks := toks1 } ι₂ s₂ → Ok cls h₀ s₂.heap ι₂ σz →
      (∀ u s₃ ι₃, Path ι₂ s₂ ι₃ s₃ → Ok cls h₀ s₃.heap ι₃ σz → Den cls s₃.heap ι₃ (.tup ts) u → Q u s₃) → wpAny (model prog w) (A.deeper env) (eval (.Call (.Name "tuple" pos) [.Name "taken" pos'] [] pos'') env) Q E s₂ := fun {E ι₂ s₂ σz pos pos' pos'' Q} p kz h => by
    refine Call_Name rfl (wpAny_Name (glob_load F kz hkf ((hko _).trans n7) henvG henvB (by simp [bnames]) ?_) rfl)
    show wpAny _ _ (callWith pos'' (.type "tuple") [] _ []) _ _ _
    refine call_type rfl (spliced_more (nm p n2 m2 rfl (spliced_none ?_)) rfl)
    exact then_ (callB_sound (f := ("tuple" : Str)) (vs := [.lst ts]) RB kz ⟨ut, [], rfl, den0 p dtaken, rfl⟩ (hB σz)) fun u s₃ ι₃ i_p3 k3 d3 => h u s₃ ι₃ i_p3 k3 d3
  refine spliced_more (wpAny_BinOp (tupleOf pt3 k3 fun va s₄ ι₄ p4 k4 d4 => ?_)) rfl
  have pt4 : Path ι { s with heap := h1, toks := toks1 } ι₄ s₄ := pt3.trans p4 k4
  refine Tuple_ (spliced_more (nm pt4 n4 m4 rfl (spliced_none ?_)) rfl)
  refine wpAny_newTuple ?_ (by simp only [List.length_cons, List.length_nil]; exact Nat.le_trans (by decide) lim_line)
  have p5 : Path ι₄ s₄ ι₄ { s₄ with heap := s₄.heap.push { cls := .type "tuple", data := .seq [Value.int m tk].toArray } } := grow_path
  have k5 : Ok cls h₀ (s₄.heap.push { cls := .type "tuple", data := .seq [Value.int m tk].toArray }) ι₄ σ := k4.grow fun b o q => Heap.get?_push_of_some _ q
  have d5 : Den cls (s₄.heap.push { cls := .type "tuple", data := .seq [Value.int m tk].toArray }) ι₄ (.tup [.int m]) (.ref s₄.heap.objs.size) := ⟨s₄.heap.objs.size, [.int m tk], rfl, notin_fresh k4 (get?_size _), ⟨0, Heap.get?_push_size _ rfl⟩, _, [], rfl, ⟨tk, rfl⟩, rfl⟩
  have hAdd : binV true .Add (.tup ts) (.tup [.int m]) σ = some (.tup (ts ++ [.int m]), σ) := by
    show (check (decide (ts.length + 1 ≤ lim)) >>= fun _ => pure (V.tup (ts ++ [.int m])) : M V) σ = _
    exact bind_iff.mpr ⟨(), σ, check_iff.mpr ⟨decide_eq_true (Nat.succ_le_of_lt hlen), rfl⟩, pure_iff.mpr rfl⟩
  refine then_ (binV_sound k5 (p5.den d4) d5 hAdd) fun vt s₆ ι₆ p6 k6 d6 => ?_
  have pt6 : Path ι { s with heap := h1, toks := toks1 } ι₆ s₆ := (pt4.trans p5 k5).trans p6 k6
  refine spliced_more (Calls.Constant_str (spliced_none ?_)) rfl
  have hbm6 : s₆.heap.get? bm = some (methodObj (.ref pf) (.ref x0)) := by
    refine el_EA (((p4.trans p5 k5).trans p6 k6).ex) fun ext _ st => ?_
    exact st.keep _ _ hbmi hbm
  refine ⟨⟨hbm6, F.X.keeps k6.stay⟩, ?_⟩
  have hcall := callFd_code (E := fun _ _ => False) (s := { s₆ with toks := s₆.toks + 1 }) F hlim I.prop hcm RB k6 (args := [.inst "Count" l, .tup (ts ++ [.int m]), .str "values"]) (vals := [.ref x0, vt, .str "values" s₆.toks]) ⟨_, _, rfl, (show Den cls s₆.heap ι₆ (.inst "Count" l) (.ref x0) from den0 pt6 dself), _, _, rfl, d6, _, _, rfl, ⟨_, rfl⟩, rfl⟩ e1
  refine wpAny_call (ks_codeAny_call_bound hbm6 (codeAny_mono hcall fun r s₇ hr => ?_))
  cases r with
  | error e => exact hr.elim
  | ok fl =>
    cases fl with
    | ret rr =>
      refine hr.elim fun g7 o7 ext7 st7 k7 _ => ?_
      have pt7 : Path ι { s with heap := h1, toks := toks1 } (ι₆ ++ ext7) s₇ := pt6.trans ⟨g7, o7, ext7, rfl, st7⟩ k7
      refine ks_wpAt_execs_cons (ks_wpAt_Assign_Attr (PySem.wpAt_of_wpAny (tupleOf pt7 k7 fun vb s₈ ι₈ p8 k8 d8 => ?_)) rfl)
      have pt8 := pt7.trans p8 k8
      refine nm pt8 n1 m1 rfl ?_
      refine wpAny_mono (setAttrV_sound F.X (F.KC cls hcm) k8 (den0 pt8 dself) d8 e3) (fun _ s₉ a9 => ?_) fun _ _ z => z
      refine a9.elim fun g9 o9 ext9 st9 k9 _ => ?_
      have pt9 : Path ι { s with heap := h1, toks := toks1 } (ι₈ ++ ext9) s₉ := pt8.trans ⟨g9, o9, ext9, rfl, st9⟩ k9
      refine ks_wpAt_execs_cons (ks_wpAt_Assign_Attr (PySem.wpAt_of_wpAny (nm pt9 n3 m3 rfl (nm pt9 n1 m1 rfl ?_))) rfl)
      refine wpAny_mono (setAttrV_sound F.X (F.KC cls hcm) k9 (den0 pt9 dself) (den0 pt9 dval) e5) (fun _ s₁₀ a10 => ?_) fun _ _ z => z
      refine a10.elim fun g10 o10 ext10 st10 k10 _ => ?_
      have pt10 : Path ι { s with heap := h1, toks := toks1 } ((ι₈ ++ ext9) ++ ext10) s₁₀ := pt9.trans ⟨g10, o10, ext10, rfl, st10⟩ k10
      refine ks_wpAt_execs_cons (ks_wpAt_Assign_Attr (PySem.wpAt_of_wpAny (nm pt10 n4 m4 rfl (nm pt10 n1 m1 rfl ?_))) rfl)
      refine wpAny_mono (setAttrV_sound F.X (F.KC cls hcm) k10 (den0 pt10 dself) (den0 pt10 (show Den cls s.heap ι (.int m) (.int m tk) from ⟨tk, rfl⟩)) e7) (fun _ s₁₁ a11 => ?_) fun _ _ z => z
      refine a11.elim fun g11 o11 ext11 st11 k11 _ => ?_
      have pt11 : Path ι { s with heap := h1, toks := toks1 } (((ι₈ ++ ext9) ++ ext10) ++ ext11) s₁₁ := pt10.trans ⟨g11, o11, ext11, rfl, st11⟩ k11
      refine PySem.wpAt_of_wpAny (wpAny_execs_nil ?_)
      exact pt1.lift (pt11.lift (After.same k11 rfl rfl rfl rfl))
    | _ => exact hr.elim
end
end Mine
end
section
open PySem PySem.W PyProof.Rows PySem.Spec
set_option maxRecDepth 100000
namespace Mine
theorem weight_make (C : Addr) (args : List Value) : (Code.builtin "type.__call__" ⟨.ref C :: args, []⟩).weight = 1 := rfl
theorem units_make (C : Addr) (args : List Value) : (Code.builtin "type.__call__" ⟨.ref C :: args, []⟩).cUnits = 1 := rfl
theorem makes_sound {w : World} {K : Frag} {n : Nat} {C : Addr} (hm : makesIn K C = true) : Makes w K n C := by
  intro init hi hf A E s vals Q X R h
  obtain ⟨hh, g, d, t, os⟩ := s
  refine make_core (makes_of X hm) (looks_findIn X hi) (fun self => bind_fn X self (beq_iff_eq.mp hf)) (.inl rfl) ?_
  have hsz : (hh.push emptyDict).objs.size = hh.objs.size + 1 := Heap.size_push ..
  have hk : ∀ b o, hh.get? b = some o → ((hh.push emptyDict).push (instObj C hh.objs.size)).get? b = some o := fun b o q => Heap.get?_push_of_some _ (Heap.get?_push_of_some _ q)
  have hd : ((hh.push emptyDict).push (instObj C hh.objs.size)).get? hh.objs.size = some emptyDict := Heap.get?_push_of_some _ (Heap.get?_push_size _ rfl)
  have hx : ((hh.push emptyDict).push (instObj C hh.objs.size)).get? (hh.objs.size + 1) = some (instObj C hh.objs.size) := by rw [← hsz]; exact Heap.get?_push_size _ rfl
  refine codeAny_mono (h ((hh.push emptyDict).push (instObj C hh.objs.size)) (hh.objs.size + 1) hh.objs.size (A.under (.builtin "type.__call__" ⟨.ref C :: vals, []⟩)) (Heap.get?_none_of_le (Nat.le_succ _)) (get?_size _) (Nat.succ_ne_self _) hx
    ⟨emptyDict, #[], _, hd, rfl, fun _ q => by simp at q, fun nm => rfl⟩ (fun o es ep ho he => ?_) hk ⟨R.hd, by have := R.dep; show A.depth + (Code.builtin "type.__call__" ⟨.ref C :: vals, []⟩).weight + 4 * n + 10 < _; rw [weight_make]; exact lin [_,_] (.h 1 1 (.a (.a (.v 0) (.m 4 (.v 1))) (.c 12)) (.c 1000) (.g 1 1 (.a (.a (.a (.v 0) (.c 1)) (.m 4 (.v 1))) (.c 10)) (.c 1000))) rfl this, by have := R.un; show A.units + (Code.builtin "type.__call__" ⟨.ref C :: vals, []⟩).cUnits + 40 * n + 400 < _; rw [units_make]; exact lin [_,_] (.h 1 1 (.a (.a (.v 0) (.m 40 (.v 1))) (.c 420)) (.c 9900) (.g 1 1 (.a (.a (.a (.v 0) (.c 1)) (.m 40 (.v 1))) (.c 400)) (.c 9900))) rfl this⟩) fun r s₂ q => ?_
  · rw [hd] at ho; cases ho
    cases he; exact Nat.le_refl _
  · match r, q with
    | .error e, q => exact q
    | .ok (.ret v), q => exact q
end Mine
end
section
open PySem PySem.W PyProof.Rows PySem.Spec
set_option maxRecDepth 100000
namespace Mine
structure Base (K : Frag) (h₀ : Heap) : Prop where
  X : K.In h₀
  KC : ∀ cls : Cx, cls.c = cm → ClsOk K cls
  G : ∃ mg mb, h₀.Ns mainGlobals mg ∧ h₀.Ns builtinsNs mb ∧ ∀ f ∈ bnames, mg f = none ∧ mb f = some (bvalue f)
  N : ∀ f, P.classes.contains f = true → ∃ C, cm f = some C ∧ nsIn K mainGlobals f = some (some (.ref C)) ∧ keepIn K (.ref C) = true ∧ makesIn K C = true
  lim : h₀.NoLimit
variable {w : World} {K : Frag} {h₀ : Heap}
theorem Base.facts0 (B : Base K h₀) (cf : CF) (h : ∀ key args, cf key args = fail) (n : Nat) : Facts w cf K h₀ n where
  X := B.X
  KC := B.KC
  G := B.G
  C := fun key args σ x σ' e => by rw [h] at e; exact (fail_iff.mp e).elim
  N := fun f hf => by obtain ⟨C, h1, h2, h3, h4⟩ := B.N f hf; exact ⟨C, h1, h2, h3, makes_sound h4⟩
theorem facts (B : Base K h₀) {pi : Fd} {tab : Key → Option Fd} (hT : ∀ key d, tab key = some d → ∃ f, KeyAt K cm key f ∧ FnAt K f d)
    {fI : Addr} (hk : KeyAt K cm (some ("Count" : Str), ("__init__" : Str)) fI) (hf : isFn K (.ref fI) = true) (hkeep : keepIn K (.ref fI) = true)
    (hI : ∀ (cls : Cx) A E (s : Shared) ι σ vals args x σ', cls.c = cm → Room 2 A → Ok cls h₀ s.heap ι σ → Dens cls s.heap ι args vals → countInit P pi args σ = some (x, σ') →
      codeAny (model prog w) A (.call (.ref fI) ⟨vals, []⟩) (CodeR E (Ret cls h₀ ι s σ' x)) s) : ∀ n, Facts w (mcall P pi tab n) K h₀ n
  | 0 => B.facts0 _ (fun _ _ => rfl) 0
  | n + 1 => {
      X := B.X
      KC := B.KC
      G := B.G
      N := fun f hf => by obtain ⟨C, h1, h2, h3, h4⟩ := B.N f hf; exact ⟨C, h1, h2, h3, makes_sound h4⟩
      C := fun key args σ x σ' e => by
        unfold mcall at e
        by_cases hkey : key = (some ("Count" : Str), ("__init__" : Str))
        · rw [if_pos hkey] at e
          refine eq_l hkey ?_
          refine check_e e fun hn e2 => ?_
          have hn := of_decide_eq_true hn
          exact in_EAAA fI hk hf hkeep (fun cls A E s ι vals hcm R k ds => hI cls A E s ι σ vals args x σ' hcm ⟨R.hd, by have := R.dep; exact lin [_,_] (.h 4 1 (.c 0) (.v 0) (.h 1 1 (.a (.a (.v 1) (.m 4 (.a (.v 0) (.c 1)))) (.c 10)) (.c 1000) (.g 1 1 (.a (.a (.v 1) (.m 4 (.c 2))) (.c 10)) (.c 1000)))) rfl hn this, by have := R.un; exact lin [_,_] (.h 40 1 (.c 0) (.v 0) (.h 1 1 (.a (.a (.v 1) (.m 40 (.a (.v 0) (.c 1)))) (.c 400)) (.c 9900) (.g 1 1 (.a (.a (.v 1) (.m 40 (.c 2))) (.c 400)) (.c 9900)))) rfl hn this⟩ k ds e2)
        · rw [if_neg hkey] at e
          refine el_EEA (bind_iff.mp e) fun d σ1 e1 e2 => ?_
          refine el_EA (need_iff.mp e1) fun d2 hd q => ?_
          cases q
          refine el_EA (hT key d hd) fun f h1 h2 => ?_
          exact ⟨f, h1, h2.fn, h2.keep, fun cls A E s ι vals hcm R k ds => callFd_code (facts B hT hk hf hkeep hI n) B.lim h2 hcm R k ds e2⟩ }
end Mine
end
section
open PySem
set_option maxRecDepth 100000
namespace Mine
noncomputable def ky (a : Option String) (b : String) : Key := (a.map Str.ofString, Str.ofString b)
noncomputable def keys : List Key := [ky none "least", ky none "greatest", ky none "next_from", ky none "has_domains", ky none "up_to", ky none "from_on", ky none "without", ky none "meet", ky none "negation", ky none "struck",
  ky none "_law_tap", ky none "_law_drawn", ky none "_law_fits", ky none "_law_fit", ky none "_law_other", ky none "_law_is_way", ky none "_law_once", ky none "_law_is_right", ky none "_law_joined", ky none "_law_lists", ky none "law",
  ky (some "Store") "__init__", ky (some "Store") "new_var", ky (some "Store") "size", ky (some "Store") "dom", ky (some "Store") "low", ky (some "Store") "high", ky (some "Store") "has", ky (some "Store") "is_fixed", ky (some "Store") "value", ky (some "Store") "enter", ky (some "Store") "strike",
  ky (some "Store") "decide", ky (some "Store") "fail", ky (some "Store") "push", ky (some "Store") "pop", ky (some "Count") "strike_once"]
noncomputable def tab' (k : Key) : Option Fd := if keys.contains k then tab k else none
noncomputable def pinit : Fd := (tab (some ("Propagator" : Str), ("__init__" : Str))).getD default
noncomputable def call (n : Nat) : CF := mcall prm pinit tab' n
theorem call_run {n : Nat} {key : Key} {d : Fd} {args : List V} {σ : Sg} (hk : (key == ((some ("Count" : Str), ("__init__" : Str)) : Key)) = false) (hd : tab' key = some d) (hok : fdOk d = true) (hl : (args.length == d.params.length) = true) :
    call (n + 1) key args σ = match exs prm (call n) d.scope (bindAll d.params args fun _ => Option.none) d.body σ with
      | some ((.ret v, _), σ') => some (v, σ')
      | some (_, σ') => some (.none, σ')
      | none => none := by
  have h1 : call (n + 1) key args σ = callFd prm (call n) d args σ := by
    show mcall prm pinit tab' (n + 1) key args σ = _
    unfold mcall
    rw [if_neg (by simpa using hk)]
    show (need (tab' key) >>= fun d => callFd prm (mcall prm pinit tab' n) d args) σ = _
    rw [hd]
    rfl
  rw [h1]
  unfold callFd
  rw [hok, hl]
  show (exs prm (call n) d.scope (bindAll d.params args fun _ => Option.none) d.body >>= fun r => match r.1 with
  | .ret v => pure v
  | _ => pure V.none) σ = _
  show Option.bind _ _ = _
  cases exs prm (call n) d.scope (bindAll d.params args fun _ => Option.none) d.body σ with
  | none => rfl
  | some q =>
    obtain ⟨⟨f, r⟩, s⟩ := q
    cases f <;> rfl
theorem bq {α β : Type} (m : M α) (f : α → M β) (σ : Sg) : (m >>= f) σ = match m σ with | some (a, s) => f a s | none => none := by
  show Option.bind _ _ = _
  cases m σ <;> rfl
structure Tg {α : Type} (a : α) : Type where
noncomputable def ob {α β : Type} (f : α → M β) (_ : Tg f) (x : Option (α × Sg)) : Option (β × Sg) := Option.bind x (fun p => match p with | (a, s) => f a s)
theorem bz {α β : Type} (m : M α) (f : α → M β) (σ : Sg) : (m >>= f) σ = ob f ⟨⟩ (m σ) := rfl
theorem ob_s {α β : Type} (f : α → M β) (t : Tg f) (a : α) (σ : Sg) : ob f t (some (a, σ)) = f a σ := rfl
theorem ob_n {α β : Type} (f : α → M β) (t : Tg f) : ob f t none = none := rfl
theorem bind_run2 {α β : Type} (m : M α) (f : α → M β) (σ : Sg) : (m >>= f) σ = Option.bind (m σ) (fun x => match x with | (a, s) => f a s) := rfl
theorem obind_s {α β : Type} (a : α) (f : α → Option β) : Option.bind (some a) f = f a := rfl
theorem obind_n {α β : Type} (f : α → Option β) : Option.bind none f = none := rfl
theorem check_t (σ : Sg) : check true σ = some ((), σ) := rfl
theorem check_f (σ : Sg) : check false σ = none := rfl
theorem pu {α : Type} (a : α) (σ : Sg) : (pure a : M α) σ = some (a, σ) := rfl
theorem cq (b : Bool) (σ : Sg) : check b σ = if b = true then some ((), σ) else none := by cases b <;> rfl
theorem nr {α : Type} (a : α) (σ : Sg) : need (some a) σ = some (a, σ) := rfl
theorem getObj_run (l : Nat) (σ : Sg) : getObj l σ = match σ[l]? with | some o => some (o, σ) | none => none := by
  unfold getObj; cases σ[l]? <;> rfl
theorem setObj_run (l : Nat) (o : MObj) (σ : Sg) : setObj l o σ = if l < σ.length then some ((), σ.set l o) else none := rfl
theorem newObj_run (o : MObj) (σ : Sg) : newObj o σ = some (σ.length, σ ++ [o]) := rfl
theorem oj (a b : String) : Str.ofString a = Str.ofString b ↔ a = b := by
  rw [Str.ofString_eq_toList, Str.ofString_eq_toList]
  refine ⟨fun h => ?_, fun h => by rw [h]⟩
  have h2 := congrArg (fun x : Str => x.cps.toList) h
  simp only at h2
  have h3 : a.toList = b.toList := by
    refine List.map_inj_right (f := Char.toNat) (fun x y q => Char.toNat_inj.mp q) |>.mp ?_
    simpa using h2
  exact String.toList_inj.mp h3
theorem ofS_beq (a b : String) : (Str.ofString a == Str.ofString b) = (a == b) := by
  rw [Bool.eq_iff_iff]
  simp [oj]
theorem eq_same {α : Type} (a : α) : (a = a) = True := eq_self a
noncomputable abbrev Dom := List (Int × Int)
noncomputable def run (p : Int × Int) : V := .tup [.int p.1, .int p.2]
noncomputable def dom (d : Dom) : V := .tup (d.map run)
theorem eqr {α : Type} (a b : α) (h : a = b) : a = b := h
theorem ur (ρ : Rho) (x : Str) (v : V) (y : Str) : upd ρ x v y = if y = x then some v else ρ y := rfl
section
variable {P : Prm} {cf : CF} {sc : Scope} {ρ ρ' : Rho} {σ σ' σ1 : Sg}
theorem exs_next {s : Stmt} {r : List Stmt} {R : Option ((Fl × Rho) × Sg)} (h : ex P cf sc ρ s σ = some ((.next, ρ'), σ')) (h2 : exs P cf sc ρ' r σ' = R) : exs P cf sc ρ (s :: r) σ = R := by
  rw [qxs2, bq, h]; exact h2
theorem exs_ret {s : Stmt} {r : List Stmt} {v : V} (h : ex P cf sc ρ s σ = some ((.ret v, ρ'), σ')) : exs P cf sc ρ (s :: r) σ = some ((.ret v, ρ'), σ') := by
  rw [qxs2, bq, h]; rfl
theorem exs_brk {s : Stmt} {r : List Stmt} (h : ex P cf sc ρ s σ = some ((.brk, ρ'), σ')) : exs P cf sc ρ (s :: r) σ = some ((.brk, ρ'), σ') := by
  rw [qxs2, bq, h]; rfl
theorem exs_nil : exs P cf sc ρ [] σ = some ((.next, ρ), σ) := rfl
theorem comp_gen {α : Type} {chk : M Unit} {step : V → List V × Rho → M (List V × Rho)} (g : α → V) (J : List α → List V → Rho → Sg → Prop)
    (hstep : ∀ a r acc ρ σ, J (a :: r) acc ρ σ → ∃ acc' ρ' σ', step (g a) (acc, ρ) σ = some ((acc', ρ'), σ') ∧ chk σ' = some ((), σ') ∧ J r acc' ρ' σ') :
    ∀ xs acc ρ σ, J xs acc ρ σ → ∃ acc' ρ' σ', compM chk step (xs.map g) (acc, ρ) σ = some ((acc', ρ'), σ') ∧ J [] acc' ρ' σ'
  | [], acc, ρ, σ, h => ⟨acc, ρ, σ, rfl, h⟩
  | a :: r, acc, ρ, σ, h => by
    refine el_EEEAA (hstep a r acc ρ σ h) fun acc' ρ' σ' e1 e2 h' => ?_
    refine el_EEEA (comp_gen g J hstep r acc' ρ' σ' h') fun acc2 ρ2 σ2 e3 h2 => ?_
    refine in_EEEA acc2 ρ2 σ2 ?_ h2
    show compM chk step (g a :: r.map g) (acc, ρ) σ = _
    rw [qco, bq, e1]
    dsimp only
    rw [bq, e2]
    exact e3
theorem for_gen {α : Type} {chk : M Unit} {step : V → Rho → M (Fl × Rho)} (g : α → V) (J : List α → Rho → Sg → Prop) (Q : Fl → Rho → Sg → Prop)
    (hstep : ∀ a r ρ σ, J (a :: r) ρ σ → ∃ fl ρ' σ', step (g a) ρ σ = some ((fl, ρ'), σ') ∧ (match fl with | .next => chk σ' = some ((), σ') ∧ J r ρ' σ' | .brk => Q .next ρ' σ' | .ret w => Q (.ret w) ρ' σ'))
    (hend : ∀ ρ σ, J [] ρ σ → Q .next ρ σ) :
    ∀ xs ρ σ, J xs ρ σ → ∃ fl ρ' σ', forM' chk step (xs.map g) ρ σ = some ((fl, ρ'), σ') ∧ Q fl ρ' σ'
  | [], ρ, σ, h => ⟨.next, ρ, σ, rfl, hend _ _ h⟩
  | a :: r, ρ, σ, h => by
    refine el_EEEA (hstep a r ρ σ h) fun fl ρ' σ' e1 h' => ?_
    cases fl with
    | next =>
      refine el_EEEA (for_gen g J Q hstep hend r ρ' σ' h'.2) fun fl2 ρ2 σ2 e3 h2 => ?_
      refine in_EEEA fl2 ρ2 σ2 ?_ h2
      show forM' chk step (g a :: r.map g) ρ σ = _
      rw [qfo, bq, e1]
      dsimp only
      rw [bq, h'.1]
      exact e3
    | brk =>
      refine in_EEEA (.next) ρ' σ' ?_ h'
      show forM' chk step (g a :: r.map g) ρ σ = _
      rw [qfo, bq, e1]
      rfl
    | ret w =>
      refine in_EEEA (.ret w) ρ' σ' ?_ h'
      show forM' chk step (g a :: r.map g) ρ σ = _
      rw [qfo, bq, e1]
      rfl
theorem ev_comp1 {α : Type} {elt t iter : Expr} {ifs : List Expr} {scope : Scope} {pos : Pos} {x : V} {l : Option Nat} (g : α → V) (xs : List α) (keep : α → Bool) (f : α → V) (I : Rho → Prop)
    (hok : (scopeOk scope && freesOk sc scope) = true)
    (hx : ev P cf sc ρ iter σ = some (x, σ1)) (hw : walkV x σ1 = some ((xs.map g, l), σ1)) (hs : still (xs.map g) l σ1 = some ((), σ1)) (h0 : I (compRho scope ρ)) (hlen : xs.length ≤ lim)
    (hstep : ∀ a ∈ xs, ∀ ρ, I ρ → ∃ ρ', asgT scope t (g a) ρ σ1 = some (ρ', σ1) ∧ I ρ' ∧ tstAll P cf scope ρ' ifs σ1 = some (keep a, σ1) ∧ (keep a = true → ev P cf scope ρ' elt σ1 = some (f a, σ1))) :
    ev P cf sc ρ (.ListComp elt [⟨t, iter, ifs, 0⟩] scope pos) σ = mkList (P.tr pos) ((xs.filter keep).map f) σ1 := by
  rw [q15]
  have h1 : (scopeOk scope && freesOk sc scope && ![(⟨t, iter, ifs, 0⟩ : Comprehension)].isEmpty && [(⟨t, iter, ifs, 0⟩ : Comprehension)].all fun g => g.is_async == 0) = true := by rw [hok]; rfl
  rw [h1, bq, cq, if_pos rfl]
  dsimp only
  rw [bq, qG2]
  simp only [beq_self_eq_true, if_true]
  rw [bq, cq, if_pos rfl]
  dsimp only
  rw [bq, hx]
  dsimp only
  rw [bq, hw]
  dsimp only
  obtain ⟨acc', ρ', σ', e, h⟩ := comp_gen (chk := still (xs.map g) l) (step := fun v q => (do
      let ρ' ← asgT scope t v q.2
      let ok ← tstAll P cf scope ρ' ifs
      if ok then evG P cf sc ρ scope (fun p => do
        let v ← ev P cf scope p.2 elt
        check (decide (p.1.length < lim))
        pure (p.1 ++ [v], p.2)) [] false (q.1, ρ') else pure (q.1, ρ'))) g
    (fun r acc ρ' σ' => σ' = σ1 ∧ I ρ' ∧ (∀ a ∈ r, a ∈ xs) ∧ acc.length + r.length ≤ lim ∧ acc ++ (r.filter keep).map f = (xs.filter keep).map f)
    (fun a r acc ρ' σ' ⟨hσ, hI, hm, hl, he⟩ => by
      subst hσ
      obtain ⟨ρ2, e1, hI2, e2, e3⟩ := hstep a (hm a (by simp)) ρ' hI
      simp only [List.length_cons] at hl
      cases hk : keep a with
      | false =>
        refine in_EEEAAA acc ρ2 σ' ?_ hs rfl (in_AAA hI2 (fun b hb => hm b (by simp [hb])) (by exact lin [_,_] (.h 1 0 (.a (.v 0) (.a (.v 1) (.c 1))) (.c 1000000) (.g 1 0 (.a (.v 0) (.v 1)) (.c 1000000))) rfl hl) ?_)
        · rw [bq, e1]
          dsimp only
          rw [bq, e2, hk]
          rfl
        · rw [← he, List.filter_cons, hk]; rfl
      | true =>
        refine in_EEEAAA (acc ++ [f a]) ρ2 σ' ?_ hs rfl (in_AAA hI2 (fun b hb => hm b (by simp [hb])) (by simp; exact lin [_,_] (.h 1 0 (.a (.v 0) (.a (.v 1) (.c 1))) (.c 1000000) (.g 1 0 (.a (.a (.v 0) (.c 1)) (.v 1)) (.c 1000000))) rfl hl) ?_)
        · rw [bq, e1]
          dsimp only
          rw [bq, e2, hk]
          dsimp only
          rw [if_pos rfl, qG1]
          dsimp only
          rw [bq, e3 hk]
          dsimp only
          rw [bq, cq, if_pos (decide_eq_true (by exact lin [_,_] (.h 1 0 (.a (.v 0) (.a (.v 1) (.c 1))) (.c 1000000) (.g 1 1 (.v 0) (.c 1000000))) rfl hl))]
          rfl
        · rw [← he, List.filter_cons, hk]; simp)
    xs [] (compRho scope ρ) σ1 ⟨rfl, h0, fun a h => h, by simpa using hlen, rfl⟩
  rw [e]
  dsimp only
  refine el_AAAA h fun hq0_ _ _ _ he => ?_
  refine eq_l hq0_ ?_
  rw [show acc' = (xs.filter keep).map f by simpa using he]
theorem exfor {α : Type} {t iter : Expr} {body : List Stmt} {pos : Pos} {x : V} {l : Option Nat} (g : α → V) (xs : List α) (J : List α → Rho → Sg → Prop) (Q : Fl → Rho → Sg → Prop)
    (hx : ev P cf sc ρ iter σ = some (x, σ1)) (hw : walkV x σ1 = some ((xs.map g, l), σ1)) (h0 : J xs ρ σ1)
    (hstep : ∀ a r ρ σ, J (a :: r) ρ σ → ∃ ρ1 σ2, asgT sc t (g a) ρ σ = some (ρ1, σ2) ∧ ∃ fl ρ' σ', exs P cf sc ρ1 body σ2 = some ((fl, ρ'), σ') ∧ (match fl with | .next => still (xs.map g) l σ' = some ((), σ') ∧ J r ρ' σ' | .brk => Q .next ρ' σ' | .ret w => Q (.ret w) ρ' σ'))
    (hend : ∀ ρ σ, J [] ρ σ → Q .next ρ σ) : ∃ fl ρ' σ', ex P cf sc ρ (.For t iter body [] pos) σ = some ((fl, ρ'), σ') ∧ Q fl ρ' σ' := by
  rw [qx8]
  rw [bq, hx]
  dsimp only
  rw [bq, hw]
  dsimp only
  refine for_gen g J Q (fun a r ρ σ hJ => ?_) hend xs ρ σ1 h0
  refine el_EEAEEEA (hstep a r ρ σ hJ) fun ρ1 σ2 e1 fl ρ' σ' e2 h => ?_
  refine in_EEEA fl ρ' σ' ?_ h
  rw [bq, e1]
  exact e2
end
end Mine
end
section
open PySem
set_option maxRecDepth 100000
namespace Mine
noncomputable def Ends (x : Option ((Fl × Rho) × Sg)) (Q : Fl → Rho → Sg → Prop) : Prop := ∃ fl ρ' σ', x = some ((fl, ρ'), σ') ∧ Q fl ρ' σ'
noncomputable def CallQ (n : Nat) (key : Key) (args : List V) (σ : Sg) (Q : V → Sg → Prop) : Prop := ∃ v σ', call n key args σ = some (v, σ') ∧ Q v σ'
theorem callQ {n : Nat} {key : Key} {d : Fd} {args : List V} {σ : Sg} {Q : V → Sg → Prop} (hk : (key == ((some ("Count" : Str), ("__init__" : Str)) : Key)) = false) (hd : tab' key = some d) (hok : fdOk d = true) (hl : (args.length == d.params.length) = true)
    (h : Ends (exs prm (call n) d.scope (bindAll d.params args fun _ => Option.none) d.body σ) (fun fl _ s => match fl with | .ret v => Q v s | _ => Q .none s)) : CallQ (n + 1) key args σ Q := by
  refine el_EEEA h fun fl ρ' σ' e q => ?_
  unfold CallQ
  rw [call_run hk hd hok hl, e]
  cases fl with
  | ret v => exact ⟨v, σ', rfl, q⟩
  | next => exact ⟨_, σ', rfl, q⟩
  | brk => exact ⟨_, σ', rfl, q⟩
theorem callQ_iff {n : Nat} {key : Key} {args : List V} {σ σ' : Sg} {v : V} (h : CallQ n key args σ fun u s => u = v ∧ s = σ') : call n key args σ = some (v, σ') := by
  obtain ⟨u, s, e, rfl, rfl⟩ := h; exact e
theorem call_ends {n : Nat} {key : Key} {d : Fd} {args : List V} {σ σ' : Sg} {v : V} (hk : (key == ((some ("Count" : Str), ("__init__" : Str)) : Key)) = false) (hd : tab' key = some d) (hok : fdOk d = true) (hl : (args.length == d.params.length) = true)
    (h : Ends (exs prm (call n) d.scope (bindAll d.params args fun _ => Option.none) d.body σ) (fun fl _ s => (match fl with | .ret u => u | _ => .none) = v ∧ s = σ')) : call (n + 1) key args σ = some (v, σ') := by
  refine callQ_iff (callQ hk hd hok hl ?_)
  refine el_EEEA h fun fl ρ' σ2 e q => ?_
  exact in_EEEA fl ρ' σ2 e (by cases fl <;> exact q)
section
variable {P : Prm} {cf : CF} {sc : Scope} {ρ ρ1 ρ' : Rho} {σ σ' σ1 : Sg} {r body orelse : List Stmt} {Q : Fl → Rho → Sg → Prop} {e t : Expr} {v : V} {pos pos' : Pos}
theorem ends_next {s : Stmt} (h : ex P cf sc ρ s σ = some ((.next, ρ1), σ1)) (h2 : Ends (exs P cf sc ρ1 r σ1) Q) : Ends (exs P cf sc ρ (s :: r) σ) Q := by
  rw [exs_next h rfl]; exact h2
theorem ends_ret (h : ev P cf sc ρ e σ = some (v, σ1)) (h2 : Q (.ret v) ρ σ1) : Ends (exs P cf sc ρ (.Return (some e) pos :: r) σ) Q :=
  ⟨_, _, _, exs_ret (by rw [qx4, qo2, bq, h]; rfl), h2⟩
theorem ends_brk (h2 : Q .brk ρ σ) : Ends (exs P cf sc ρ (.Break pos :: r) σ) Q :=
  ⟨_, _, _, exs_brk rfl, h2⟩
theorem ends_nil (h2 : Q .next ρ σ) : Ends (exs P cf sc ρ [] σ) Q := ⟨_, _, _, rfl, h2⟩
theorem ends_expr (h : ev P cf sc ρ e σ = some (v, σ1)) (hn : notComp e = true) (h2 : Ends (exs P cf sc ρ r σ1) Q) : Ends (exs P cf sc ρ (.Expr e pos :: r) σ) Q :=
  ends_next (by rw [qx1, bq, cq, if_pos hn]; dsimp only; rw [bq, h]; rfl) h2
theorem ends_asg {t : Expr} (h : ev P cf sc ρ e σ = some (v, σ1)) (hs : swapFine t e = true) (ha : asg P cf sc ρ t v σ1 = some (ρ1, σ')) (h2 : Ends (exs P cf sc ρ1 r σ') Q) : Ends (exs P cf sc ρ (.Assign [t] e pos :: r) σ) Q :=
  ends_next (by rw [qx5, bq, cq, if_pos hs]; dsimp only; rw [bq, h]; dsimp only; rw [bq, ha]; rfl) h2
theorem ends_set {x : Str} (h : ev P cf sc ρ e σ = some (v, σ1)) (ho : isOwn sc x = true) (h2 : Ends (exs P cf sc (upd ρ x v) r σ1) Q) : Ends (exs P cf sc ρ (.Assign [.Name x pos'] e pos :: r) σ) Q :=
  ends_asg h rfl (by rw [qa3, bq, cq, if_pos ho]; rfl) h2
theorem ends_if_t (h : tst P cf sc ρ t (ev P cf sc ρ t) σ = some (true, σ1)) (h2 : Ends (exs P cf sc ρ body σ1) fun fl ρ' σ' => match fl with | .next => Ends (exs P cf sc ρ' r σ') Q | fl => Q fl ρ' σ') : Ends (exs P cf sc ρ (.If t body orelse pos :: r) σ) Q := by
  refine el_EEEA h2 fun fl ρ' σ' e q => ?_
  unfold Ends
  rw [qxs2, bq, qx6, bq, h]
  dsimp only
  rw [if_pos rfl, e]
  dsimp only
  cases fl with
  | next => exact q
  | brk => exact ⟨_, _, _, rfl, q⟩
  | ret w => exact ⟨_, _, _, rfl, q⟩
theorem ends_if_f (h : tst P cf sc ρ t (ev P cf sc ρ t) σ = some (false, σ1)) (h2 : Ends (exs P cf sc ρ orelse σ1) fun fl ρ' σ' => match fl with | .next => Ends (exs P cf sc ρ' r σ') Q | fl => Q fl ρ' σ') : Ends (exs P cf sc ρ (.If t body orelse pos :: r) σ) Q := by
  refine el_EEEA h2 fun fl ρ' σ' e q => ?_
  unfold Ends
  rw [qxs2, bq, qx6, bq, h]
  dsimp only
  rw [if_neg (by simp), e]
  dsimp only
  cases fl with
  | next => exact q
  | brk => exact ⟨_, _, _, rfl, q⟩
  | ret w => exact ⟨_, _, _, rfl, q⟩
theorem eif (h : tst P cf sc ρ t (ev P cf sc ρ t) σ = some (false, σ1)) (h2 : Ends (exs P cf sc ρ r σ1) Q) : Ends (exs P cf sc ρ (.If t body [] pos :: r) σ) Q := ends_if_f h (ends_nil h2)
theorem ends_if_ret {v : V} {posr : Pos} {rr : List Stmt} {b : Bool} (h : tst P cf sc ρ t (ev P cf sc ρ t) σ = some (b, σ1)) (h1 : b = true → ev P cf sc ρ e σ1 = some (v, σ') ∧ Q (.ret v) ρ σ') (h2 : b = false → Ends (exs P cf sc ρ r σ1) Q) :
    Ends (exs P cf sc ρ (.If t (.Return (some e) posr :: rr) [] pos :: r) σ) Q := by
  cases b with
  | true => exact ends_if_t h (ends_ret (h1 rfl).1 (h1 rfl).2)
  | false => exact eif h (h2 rfl)
theorem ends_for {α : Type} {iter : Expr} {x : V} {l : Option Nat} (g : α → V) (xs : List α) (J : List α → Rho → Sg → Prop) (hx : ev P cf sc ρ iter σ = some (x, σ1)) (hw : walkV x σ1 = some ((xs.map g, l), σ1)) (h0 : J xs ρ σ1)
    (hstep : ∀ a r' ρ σ, J (a :: r') ρ σ → ∃ ρ1 σ2, asgT sc t (g a) ρ σ = some (ρ1, σ2) ∧ Ends (exs P cf sc ρ1 body σ2) fun fl ρ' σ' => (match fl with | .next => still (xs.map g) l σ' = some ((), σ') ∧ J r' ρ' σ' | .brk => Ends (exs P cf sc ρ' r σ') Q | .ret w => Q (.ret w) ρ' σ'))
    (hend : ∀ ρ σ, J [] ρ σ → Ends (exs P cf sc ρ r σ) Q) : Ends (exs P cf sc ρ (.For t iter body [] pos :: r) σ) Q := by
  obtain ⟨fl, ρ', σ', e, q⟩ := exfor (P := P) (cf := cf) (sc := sc) (ρ := ρ) (σ := σ) (t := t) (iter := iter) (body := body) (pos := pos) g xs J (fun fl ρ' σ' => match fl with | .next => Ends (exs P cf sc ρ' r σ') Q | .brk => False | .ret w => Q (.ret w) ρ' σ') hx hw h0
    (fun a r' ρ σ hJ => by
      refine el_EEAEEEA (hstep a r' ρ σ hJ) fun ρ1 σ2 e1 fl ρ' σ' e2 h => ?_
      exact ⟨ρ1, σ2, e1, fl, ρ', σ', e2, by cases fl <;> exact h⟩) hend
  cases fl with
  | next => exact ends_next e q
  | brk => exact q.elim
  | ret w => exact ⟨_, _, _, exs_ret e, q⟩
theorem while_gen {test : Rho → M Bool} {bodyM : Rho → M (Fl × Rho)} (J : Nat → Rho → Sg → Prop) (Q' : Fl → Rho → Sg → Prop)
    (hstep : ∀ m ρ σ, J m ρ σ → ∃ b, test ρ σ = some (b, σ) ∧ (b = true → ∃ m', m = m' + 1 ∧ Ends (bodyM ρ σ) fun fl ρ' σ' => match fl with | .next => J m' ρ' σ' | .brk => Q' .next ρ' σ' | .ret w => Q' (.ret w) ρ' σ') ∧ (b = false → Q' .next ρ σ)) :
    ∀ fuel m ρ σ, m < fuel → J m ρ σ → Ends (whileM test bodyM fuel ρ σ) Q'
  | 0, m, ρ, σ, hm, _ => absurd hm (by exact lin [_] (.g 1 5 (.v 0) (.c 0)) rfl)
  | fuel + 1, m, ρ, σ, hm, hJ => by
    refine el_EAA (hstep m ρ σ hJ) fun b e1 ht hf => ?_
    rw [qwh]
    cases b with
    | false =>
      refine in_EEEA (.next) ρ σ ?_ (hf rfl)
      rw [bq, e1]
      rfl
    | true =>
      refine el_EAEEEA (ht rfl) fun m' hq1_ fl ρ' σ' e2 q => ?_
      refine eq_l hq1_ ?_
      cases fl with
      | next =>
        refine el_EEEA (while_gen J Q' hstep fuel m' ρ' σ' (by exact lin [_,_,_] (.h 1 1 (.v 0) (.a (.v 1) (.c 1)) (.h 1 3 (.v 0) (.a (.v 2) (.c 1)) (.g 1 1 (.v 2) (.v 1)))) rfl hm hq1_) q) fun fl2 ρ2 σ2 e3 q2 => ?_
        refine in_EEEA fl2 ρ2 σ2 ?_ q2
        rw [bq, e1]
        dsimp only
        rw [if_pos rfl, bq, e2]
        exact e3
      | brk =>
        refine in_EEEA (.next) ρ' σ' ?_ q
        rw [bq, e1]
        dsimp only
        rw [if_pos rfl, bq, e2]
        rfl
      | ret w =>
        refine in_EEEA (.ret w) ρ' σ' ?_ q
        rw [bq, e1]
        dsimp only
        rw [if_pos rfl, bq, e2]
        rfl
theorem ends_while (J : Nat → Rho → Sg → Prop) (m : Nat) (hm : m < 1000) (h0 : J m ρ σ)
    (hstep : ∀ m ρ σ, J m ρ σ → ∃ b, tst P cf sc ρ t (ev P cf sc ρ t) σ = some (b, σ) ∧ (b = true → ∃ m', m = m' + 1 ∧ Ends (exs P cf sc ρ body σ) fun fl ρ' σ' => match fl with | .next => J m' ρ' σ' | .brk => Ends (exs P cf sc ρ' r σ') Q | .ret w => Q (.ret w) ρ' σ') ∧ (b = false → Ends (exs P cf sc ρ r σ) Q)) :
    Ends (exs P cf sc ρ (.While t body [] pos :: r) σ) Q := by
  obtain ⟨fl, ρ', σ', e, q⟩ := while_gen (test := fun ρ => tst P cf sc ρ t (ev P cf sc ρ t)) (bodyM := fun ρ => exs P cf sc ρ body) J (fun fl ρ' σ' => match fl with | .next => Ends (exs P cf sc ρ' r σ') Q | .brk => False | .ret w => Q (.ret w) ρ' σ') hstep 1000 m ρ σ hm h0
  have e' : ex P cf sc ρ (.While t body [] pos) σ = some ((fl, ρ'), σ') := e
  cases fl with
  | next => exact ends_next e' q
  | brk => exact q.elim
  | ret w => exact ⟨_, _, _, exs_ret e', q⟩
theorem ends_mono {x : Option ((Fl × Rho) × Sg)} {Q' : Fl → Rho → Sg → Prop} (h : Ends x Q) (hq : ∀ fl ρ σ, Q fl ρ σ → Q' fl ρ σ) : Ends x Q' := by
  refine el_EEEA h fun fl ρ' σ' e q => ?_
  exact in_EEEA fl ρ' σ' e (hq _ _ _ q)
end
end Mine
end
section
open PySem
set_option maxRecDepth 100000
set_option backward.defeqAttrib.useBackward true
namespace Mine
theorem isOwn_run (sc : Scope) (x : Str) (h : isOwn sc x = true) : isOwn sc x = true := h
theorem flat_int (n : Nat) (i : Int) : flat n (.int i) = true := by cases n <;> rfl
theorem flat_zs (n : Nat) (xs : List Int) : (xs.map V.int).all (flat n) = true := by
  simp [List.all_eq_true, flat_int]
theorem flat_run (n : Nat) (p : Int × Int) : flat (n + 1) (run p) = true := by
  show (flat n (.int p.1) && (flat n (.int p.2) && true)) = true
  rw [flat_int, flat_int]; rfl
theorem flat_runs (n : Nat) (xs : Dom) : (xs.map run).all (flat (n + 1)) = true := by
  simp [List.all_eq_true, flat_run]
theorem beq_dec {α : Type} [DecidableEq α] (f : α → V) (hf : ∀ x y, f x = f y → x = y) (a b : α) : V.beq (f a) (f b) = decide (a = b) := by
  rw [Bool.eq_iff_iff, V.beq_iff, decide_eq_true_iff]
  exact ⟨hf a b, fun h => by rw [h]⟩
theorem run_inj {x y : Int × Int} (h : run x = run y) : x = y := by
  simp only [run, V.tup.injEq, List.cons.injEq, V.int.injEq, and_true] at h
  exact Prod.ext h.1 h.2
theorem int_inj {x y : Int} (h : V.int x = V.int y) : x = y := V.int.inj h
theorem map_inj {α β : Type} {f : α → β} (hf : ∀ {x y}, f x = f y → x = y) {xs ys : List α} (h : xs.map f = ys.map f) : xs = ys := (List.map_inj_right fun _ _ => hf).mp h
noncomputable def solid : V → Bool
  | .str _ => false
  | .ref _ => false
  | _ => true
theorem eqV_gen {a b : V} {σ : Sg} (ha : solid a = true) (hb : solid b = true) (fa : flat 6 a = true) (fb : flat 6 b = true) : eqV a b σ = some (V.beq a b, σ) := by
  have h1 : seqOf a σ = some (a, σ) := by cases a <;> first | rfl | exact (Bool.false_ne_true ha).elim
  have h2 : seqOf b σ = some (b, σ) := by cases b <;> first | rfl | exact (Bool.false_ne_true hb).elim
  have h3 : eqV a b = (do
    let a ← seqOf a
    let b ← seqOf b
    check (flat 6 a && flat 6 b)
    pure (V.beq a b)) := by cases a <;> first | rfl | exact (Bool.false_ne_true ha).elim
  rw [h3, bq, h1]
  dsimp only
  rw [bq, h2]
  dsimp only
  rw [bq, cq, fa, fb]
  rfl
theorem eqV_dec {α : Type} [DecidableEq α] (f : α → V) (hf : ∀ x y, f x = f y → x = y) (hs : ∀ x, solid (f x) = true) (hfl : ∀ x, flat 6 (f x) = true) (a b : α) (σ : Sg) : eqV (f a) (f b) σ = some (decide (a = b), σ) := by
  rw [eqV_gen (hs a) (hs b) (hfl a) (hfl b), beq_dec f hf]
theorem eqV_int (a b : Int) (σ : Sg) : eqV (.int a) (.int b) σ = some (decide (a = b), σ) := eqV_dec V.int (fun _ _ h => V.int.inj h) (fun _ => rfl) (flat_int 6) a b σ
theorem eqV_str (a b : Str) (σ : Sg) : eqV (.str a) (.str b) σ = some (a == b, σ) := rfl
theorem eqV_none_int (b : Int) (σ : Sg) : eqV .none (.int b) σ = some (false, σ) := by
  rw [eqV_gen rfl rfl rfl (flat_int 6 b)]
  congr 2
theorem flat_dom (a : Dom) : flat 6 (dom a) = true := flat_runs 4 a
theorem dom_inj {a b : Dom} (h : dom a = dom b) : a = b := map_inj run_inj (V.tup.inj h)
theorem eqV_dom (a b : Dom) (σ : Sg) : eqV (dom a) (dom b) σ = some (decide (a = b), σ) := eqV_dec dom (fun _ _ h => dom_inj h) (fun _ => rfl) flat_dom a b σ
theorem eqV_dom_nil (a : Dom) (σ : Sg) : eqV (dom a) (.tup []) σ = some (decide (a = []), σ) := eqV_dom a [] σ
noncomputable def zs (xs : List Int) : V := .lst (xs.map .int)
theorem flat_zs' (n : Nat) (a : List Int) : flat (n + 1) (zs a) = true := flat_zs n a
theorem zs_inj {a b : List Int} (h : zs a = zs b) : a = b := map_inj int_inj (V.lst.inj h)
theorem eqV_zs (a b : List Int) (σ : Sg) : eqV (zs a) (zs b) σ = some (decide (a = b), σ) := eqV_dec zs (fun _ _ h => zs_inj h) (fun _ => rfl) (flat_zs' 5) a b σ
theorem eqV_zs_nil (a : List Int) (σ : Sg) : eqV (zs a) (.lst []) σ = some (decide (a = []), σ) := eqV_zs a [] σ
theorem inV_zs (a : Int) (xs : List Int) (σ : Sg) : inV (.int a) (zs xs) σ = some (decide (a ∈ xs), σ) := by
  show (check (flat 5 (.int a) && (xs.map V.int).all (flat 5)) >>= fun _ => pure ((xs.map V.int).any fun x => V.beq x (.int a)) : M Bool) σ = _
  rw [bq, cq, if_pos (by simp only [flat_int, flat_zs, Bool.and_true])]
  refine congrArg (fun b => some (b, σ)) ?_
  rw [Bool.eq_iff_iff]
  simp [V.beq_iff]
theorem idx_any {o s x : V} {k : Int} {xs : List V} {σ : Sg} {i : Nat} (h1 : seqOf o σ = some (s, σ)) (h2 : asSq s = some xs) (hl : xs.length ≤ lim) (h3 : place xs.length k = some i) (h4 : xs[i]? = some x) : idxV o (.int k) σ = some (x, σ) := by
  unfold idxV
  rw [bq, h1]
  show (need (asSq s) >>= fun xs => check (decide (xs.length ≤ lim)) >>= fun _ => need ((place xs.length k).bind (xs[·]?)) : M V) σ = _
  rw [h2]
  show (check (decide (xs.length ≤ lim)) >>= fun _ => need ((place xs.length k).bind (xs[·]?)) : M V) σ = _
  rw [bq, cq, if_pos (decide_eq_true hl), h3]
  show need (xs[i]?) σ = _
  rw [h4]; rfl
theorem place_nat {n i : Nat} (h : i < n) : place n i = some i := by
  unfold place; rw [if_pos (Int.natCast_nonneg i), if_pos (Int.ofNat_lt.mpr h), Int.toNat_natCast]
theorem place_last {n : Nat} : place (n + 1) (-1) = some n := by
  unfold place
  have h1 : ((n + 1 : Nat) : Int) = (n : Int) + 1 := rfl
  rw [h1, if_neg (by decide), if_pos (by exact lini [_] (.h 1 0 (.c 0) (.v 0) (.g 1 0 (.c 0) (.a (.u (.c 1)) (.a (.v 0) (.c 1))))) rfl (Int.natCast_nonneg _))]
  exact congrArg some (by lia)
theorem idx_at {xs : List V} {x : V} {i : Nat} {σ : Sg} (h : xs[i]? = some x) (hl : xs.length ≤ lim) : idxV (.tup xs) (.int i) σ = some (x, σ) :=
  el_E (List.getElem?_eq_some_iff.mp h) fun hi _ => idx_any rfl rfl hl (place_nat hi) h
theorem idx_lat {xs : List V} {x : V} {i : Nat} {σ : Sg} (h : xs[i]? = some x) (hl : xs.length ≤ lim) : idxV (.lst xs) (.int i) σ = some (x, σ) :=
  el_E (List.getElem?_eq_some_iff.mp h) fun hi _ => idx_any rfl rfl hl (place_nat hi) h
theorem idx_ref {xs : List V} {x : V} {i l : Nat} {σ : Sg} (hr : σ[l]? = some (.list xs)) (h : xs[i]? = some x) (hl : xs.length ≤ lim) : idxV (.ref l) (.int i) σ = some (x, σ) :=
  el_E (List.getElem?_eq_some_iff.mp h) fun hi _ => idx_any (s := .lst xs) (by show (getObj l >>= _) σ = _; rw [bq, getObj_run, hr]; rfl) rfl hl (place_nat hi) h
theorem idx_tup0 {x : V} {xs : List V} {σ : Sg} (h : xs.length < lim) : idxV (.tup (x :: xs)) (.int 0) σ = some (x, σ) := idx_at (i := 0) rfl h
theorem last_at {xs : List V} {x : V} : (xs ++ [x])[xs.length]? = some x := by simp
theorem idx_tup_last {xs : List V} {x : V} {σ : Sg} (h : xs.length < lim) : idxV (.tup (xs ++ [x])) (.int (-1)) σ = some (x, σ) :=
  idx_any rfl rfl (by rw [List.length_append]; exact h) (by rw [List.length_append]; exact place_last) last_at
theorem idx_lst_last {xs : List V} {x : V} {σ : Sg} (h : xs.length < lim) : idxV (.lst (xs ++ [x])) (.int (-1)) σ = some (x, σ) :=
  idx_any rfl rfl (by rw [List.length_append]; exact h) (by rw [List.length_append]; exact place_last) last_at
theorem idx_run0 (p : Int × Int) (σ : Sg) : idxV (run p) (.int 0) σ = some (.int p.1, σ) := rfl
theorem idx_run1 (p : Int × Int) (σ : Sg) : idxV (run p) (.int 1) σ = some (.int p.2, σ) := rfl
theorem idx_dom0 {p : Int × Int} {d : Dom} {σ : Sg} (h : d.length < lim) : idxV (dom (p :: d)) (.int 0) σ = some (run p, σ) := idx_tup0 (by simpa using h)
theorem idx_dom_last {p : Int × Int} {d : Dom} {σ : Sg} (h : d.length < lim) : idxV (dom (d ++ [p])) (.int (-1)) σ = some (run p, σ) := by
  have := idx_tup_last (xs := d.map run) (x := run p) (σ := σ) (by simpa using h)
  simpa [dom] using this
theorem walk_tup {xs : List V} {σ : Sg} (h : xs.length ≤ lim) : walkV (.tup xs) σ = some ((xs, none), σ) := by
  show (check (decide (xs.length ≤ lim)) >>= fun _ => pure (xs, none) : M _) σ = _
  rw [bq, cq, if_pos (decide_eq_true h)]; rfl
theorem walk_lst {xs : List V} {σ : Sg} (h : xs.length ≤ lim) : walkV (.lst xs) σ = some ((xs, none), σ) := walk_tup h
theorem walk_dom {d : Dom} {σ : Sg} (h : d.length ≤ lim) : walkV (dom d) σ = some ((d.map run, none), σ) := walk_tup (by rwa [List.length_map])
theorem walk_zs {d : List Int} {σ : Sg} (h : d.length ≤ lim) : walkV (zs d) σ = some ((d.map .int, none), σ) := walk_tup (by rwa [List.length_map])
theorem walk_rg0 {lo hi : Int} {σ : Sg} (h1 : -1000 ≤ lo ∧ lo ≤ 100000) (h2 : -1000 ≤ hi ∧ hi ≤ 100000) : walkV (.rng lo hi) σ = some (((List.range (hi - lo).toNat).map (fun (k : Nat) => V.int (lo + k)), none), σ) := by
  show (check (decide (-1000 ≤ lo) && decide (lo ≤ 100000) && decide (-1000 ≤ hi) && decide (hi ≤ 100000)) >>= fun _ => pure ((List.range (hi - lo).toNat).map (fun (k : Nat) => V.int (lo + k)), none) : M _) σ = _
  rw [bq, cq, if_pos (by simp [h1, h2])]; rfl
theorem cfu {P : Prm} {cf : CF} {sc : Scope} {f : Str} {vs : List V} {σ : Sg} (hg : isGlob sc f = true) (hb : builtinsCalled.contains f = false) (hc : P.classes.contains f = false) : callN P cf sc f vs σ = cf (none, f) vs σ := by
  unfold callN
  rw [bq, cq, if_pos hg]
  dsimp only
  rw [if_neg (by rw [hb]; simp), if_neg (by rw [hc]; simp)]
theorem callN_blt {P : Prm} {cf : CF} {sc : Scope} {f : Str} {vs : List V} {σ : Sg} (hg : isGlob sc f = true) (hb : builtinsCalled.contains f = true) : callN P cf sc f vs σ = callB f vs σ := by
  unfold callN
  rw [bq, cq, if_pos hg]
  dsimp only
  rw [if_pos hb]
section
variable {P : Prm} {cf : CF} {sc : Scope} {σ : Sg}
theorem callN_int {i : Int} (hg : isGlob sc (Str.ofString "int") = true) : callN P cf sc (Str.ofString "int") [.int i] σ = some (.int i, σ) := by
  rw [callN_blt hg rfl]; rfl
theorem callN_int_b {b : Bool} (hg : isGlob sc (Str.ofString "int") = true) : callN P cf sc (Str.ofString "int") [.bool b] σ = some (.int (if b then 1 else 0), σ) := by
  rw [callN_blt hg rfl]; rfl
theorem callN_max {a b : Int} (hg : isGlob sc (Str.ofString "max") = true) : callN P cf sc (Str.ofString "max") [.int a, .int b] σ = some (.int (max a b), σ) := by
  rw [callN_blt hg rfl]; rfl
theorem callN_min {a b : Int} (hg : isGlob sc (Str.ofString "min") = true) : callN P cf sc (Str.ofString "min") [.int a, .int b] σ = some (.int (min a b), σ) := by
  rw [callN_blt hg rfl]; rfl
theorem callN_len {xs : List V} (hg : isGlob sc (Str.ofString "len") = true) (h : xs.length ≤ lim) : callN P cf sc (Str.ofString "len") [.lst xs] σ = some (.int xs.length, σ) := by
  rw [callN_blt hg rfl]
  show (do check (decide (xs.length ≤ lim)); pure (V.int xs.length) : M V) σ = _
  rw [bq, cq, if_pos (decide_eq_true h)]; rfl
theorem callN_len_t {xs : List V} (hg : isGlob sc (Str.ofString "len") = true) (h : xs.length ≤ lim) : callN P cf sc (Str.ofString "len") [.tup xs] σ = some (.int xs.length, σ) := by
  rw [callN_blt hg rfl]
  show (do check (decide (xs.length ≤ lim)); pure (V.int xs.length) : M V) σ = _
  rw [bq, cq, if_pos (decide_eq_true h)]; rfl
theorem callN_len_r {xs : List V} {l : Nat} (hg : isGlob sc (Str.ofString "len") = true) (hr : σ[l]? = some (.list xs)) (h : xs.length ≤ lim) : callN P cf sc (Str.ofString "len") [.ref l] σ = some (.int xs.length, σ) := by
  rw [callN_blt hg rfl]
  show ((getObj l >>= fun o => need (oList o) >>= fun xs => pure (V.lst xs)) >>= fun v => need (asSq v) >>= fun xs => (do check (xs.length ≤ lim); pure (V.int xs.length) : M V)) σ = _
  rw [bq, bq, getObj_run, hr]
  show (do check (decide (xs.length ≤ lim)); pure (V.int xs.length) : M V) σ = _
  rw [bq, cq, if_pos (decide_eq_true h)]; rfl
theorem callN_list {xs : List V} (hg : isGlob sc (Str.ofString "list") = true) (h : xs.length ≤ lim) : callN P cf sc (Str.ofString "list") [.lst xs] σ = some (.lst xs, σ) := by
  rw [callN_blt hg rfl]
  show (do check (decide (xs.length ≤ lim)); pure (V.lst xs) : M V) σ = _
  rw [bq, cq, if_pos (decide_eq_true h)]; rfl
theorem callN_list_t {xs : List V} (hg : isGlob sc (Str.ofString "list") = true) (h : xs.length ≤ lim) : callN P cf sc (Str.ofString "list") [.tup xs] σ = some (.lst xs, σ) := by
  rw [callN_blt hg rfl]
  show (do check (decide (xs.length ≤ lim)); pure (V.lst xs) : M V) σ = _
  rw [bq, cq, if_pos (decide_eq_true h)]; rfl
theorem callN_tuple {xs : List V} (hg : isGlob sc (Str.ofString "tuple") = true) (h : xs.length ≤ lim) : callN P cf sc (Str.ofString "tuple") [.lst xs] σ = some (.tup xs, σ) := by
  rw [callN_blt hg rfl]
  show (do check (decide (xs.length ≤ lim)); pure (V.tup xs) : M V) σ = _
  rw [bq, cq, if_pos (decide_eq_true h)]; rfl
theorem callN_tuple_t {xs : List V} (hg : isGlob sc (Str.ofString "tuple") = true) (h : xs.length ≤ lim) : callN P cf sc (Str.ofString "tuple") [.tup xs] σ = some (.tup xs, σ) := by
  rw [callN_blt hg rfl]
  show (do check (decide (xs.length ≤ lim)); pure (V.tup xs) : M V) σ = _
  rw [bq, cq, if_pos (decide_eq_true h)]; rfl
theorem callN_tuple_r {xs : List V} {l : Nat} (hg : isGlob sc (Str.ofString "tuple") = true) (hr : σ[l]? = some (.list xs)) (h : xs.length ≤ lim) : callN P cf sc (Str.ofString "tuple") [.ref l] σ = some (.tup xs, σ) := by
  rw [callN_blt hg rfl]
  show ((getObj l >>= fun o => need (oList o) >>= fun xs => pure (V.lst xs)) >>= fun v => need (asSq v) >>= fun xs => (do check (xs.length ≤ lim); pure (V.tup xs) : M V)) σ = _
  rw [bq, bq, getObj_run, hr]
  show (do check (decide (xs.length ≤ lim)); pure (V.tup xs) : M V) σ = _
  rw [bq, cq, if_pos (decide_eq_true h)]; rfl
theorem callN_range1 {a : Int} (hg : isGlob sc (Str.ofString "range") = true) (h : -1000 ≤ a ∧ a ≤ 100000) : callN P cf sc (Str.ofString "range") [.int a] σ = some (.rng 0 a, σ) := by
  rw [callN_blt hg rfl]
  show (do check (decide (-1000 ≤ a) && decide (a ≤ 100000)); pure (V.rng 0 a) : M V) σ = _
  rw [bq, cq, if_pos (by simp [h])]; rfl
theorem callN_range2 {a b : Int} (hg : isGlob sc (Str.ofString "range") = true) (h : -1000 ≤ a ∧ a ≤ 100000) (h2 : -1000 ≤ b ∧ b ≤ 100000) : callN P cf sc (Str.ofString "range") [.int a, .int b] σ = some (.rng a b, σ) := by
  rw [callN_blt hg rfl]
  show (do check (decide (-1000 ≤ a) && decide (a ≤ 100000) && decide (-1000 ≤ b) && decide (b ≤ 100000)); pure (V.rng a b) : M V) σ = _
  rw [bq, cq, if_pos (by simp [h, h2])]; rfl
theorem lim_0 : decide (0 ≤ lim) = true := by decide
theorem lim_1 : decide (1 ≤ lim) = true := by decide
theorem lim_2 : decide (2 ≤ lim) = true := by decide
theorem lim_3 : decide (3 ≤ lim) = true := by decide
theorem lim_4 : decide (4 ≤ lim) = true := by decide
theorem lim_5 : decide (5 ≤ lim) = true := by decide
theorem binV_addi {b : Bool} {x y : Int} : binV b .Add (.int x) (.int y) = pure (.int (x + y)) := rfl
theorem binV_subi {b : Bool} {x y : Int} : binV b .Sub (.int x) (.int y) = pure (.int (x - y)) := rfl
theorem binV_mod {b : Bool} {x y : Int} (h : 0 < y) : binV b .Mod (.int x) (.int y) σ = some (.int (x % y), σ) := by
  show (do check (decide (0 < y)); pure (V.int (x % y)) : M V) σ = _; rw [bq, cq, if_pos (decide_eq_true h)]; rfl
theorem binV_mul {b : Bool} {x y : Int} (h : x.natAbs < 2 ^ 64) : binV b .Mult (.int x) (.int y) σ = some (.int (x * y), σ) := by
  show (do check (decide (x.natAbs < 2 ^ 64)); pure (V.int (x * y)) : M V) σ = _; rw [bq, cq, if_pos (decide_eq_true h)]; rfl
theorem binV_div {b : Bool} {x y : Int} (h : 0 < y) (h2 : x.natAbs < 2 ^ 64) : binV b .FloorDiv (.int x) (.int y) σ = some (.int (x / y), σ) := by
  show (do check (decide (0 < y) && decide (x.natAbs < 2 ^ 64)); pure (V.int (x / y)) : M V) σ = _; rw [bq, cq, if_pos (by simp [h, h2])]; rfl
theorem binV_addt {b : Bool} {xs ys : List V} (h : xs.length + ys.length ≤ lim) : binV b .Add (.tup xs) (.tup ys) σ = some (.tup (xs ++ ys), σ) := by
  show (do check (decide (xs.length + ys.length ≤ lim)); pure (V.tup (xs ++ ys)) : M V) σ = _; rw [bq, cq, if_pos (decide_eq_true h)]; rfl
theorem binV_addl {b : Bool} {xs ys : List V} (hb : b = false) (h : xs.length + ys.length ≤ lim) : binV b .Add (.lst xs) (.lst ys) σ = some (.lst (xs ++ ys), σ) := by
  subst hb; show (do check (decide ((xs ++ ys).length ≤ lim)); pure (V.lst (xs ++ ys)) : M V) σ = _; rw [bq, cq, List.length_append, if_pos (decide_eq_true h)]; rfl
theorem mkL_f {xs : List V} {b : Bool} (hb : b = false) (h : xs.length ≤ lim) : mkList b xs σ = some (.lst xs, σ) := by
  subst hb; unfold mkList; rw [bq, cq, if_pos (decide_eq_true h)]; rfl
theorem mkL_t {xs : List V} {b : Bool} (hb : b = true) (h : xs.length ≤ lim) : mkList b xs σ = some (.ref σ.length, σ ++ [.list xs]) := by
  subst hb; unfold mkList; rw [bq, cq, if_pos (decide_eq_true h)]; rfl
theorem len_fm {α β : Type} {xs : List α} {p : α → Bool} {f : α → β} (h : xs.length ≤ lim) : ((xs.filter p).map f).length ≤ lim := by
  rw [List.length_map]; exact Nat.le_trans (List.length_filter_le _ _) h
end
end Mine
end
namespace Mine
local macro_rules
  | `(tactic| simp! [$as,*]) => `(tactic| simp (disch := first | assumption | with_unfolding_all exact eqr _ _ rfl | omega | (apply len_fm; assumption)) only [$as,*])
section
open PySem
set_option maxRecDepth 100000
set_option backward.defeqAttrib.useBackward true
theorem least_run {n : Nat} {p : Int × Int} {d : Dom} {σ : Sg} (h : d.length < lim) : call (n + 1) (none, ("least" : Str)) [dom (p :: d)] σ = some (.int p.1, σ) := by
  apply call_ends rfl rfl rfl rfl
  apply ends_ret
  · simp! [↓q3, ↓q6, ↓q21f, eq_self, ↓bz, ob_s, pu, nr, qb1, qb2, ur, List.map_cons, List.map_nil, ↓reduceIte, idx_run0, idx_dom0]; rfl
  · exact ⟨rfl, rfl⟩
theorem greatest_run {n : Nat} {p : Int × Int} {d : Dom} {σ : Sg} (h : d.length < lim) : call (n + 1) (none, ("greatest" : Str)) [dom (d ++ [p])] σ = some (.int p.2, σ) := by
  apply call_ends rfl rfl rfl rfl
  apply ends_ret
  · simp! [↓q3, ↓q6, ↓q9, ↓q21f, eq_self, ↓bz, ob_s, pu, nr, qb1, qb2, ur, List.map_cons, List.map_nil, ↓reduceIte, idx_run1, idx_dom_last]; rfl
  · exact ⟨rfl, rfl⟩
noncomputable def nextF : Dom → Int → Option Int
  | [], _ => none
  | p :: r, v => if v ≤ p.2 then some (max p.1 v) else nextF r v
theorem nextF_cons {p : Int × Int} {r : Dom} {v : Int} : nextF (p :: r) v = if v ≤ p.2 then some (max p.1 v) else nextF r v := rfl
noncomputable def oint : Option Int → V
  | none => .none
  | some i => .int i
theorem next_from_run {n : Nat} {d : Dom} {v : Int} {σ : Sg} (h : d.length ≤ lim) : call (n + 1) (none, ("next_from" : Str)) [dom d, .int v] σ = some (oint (nextF d v), σ) := by
  apply call_ends rfl rfl rfl rfl
  apply ends_for run d (fun r ρ σ' => σ' = σ ∧ ρ "v" = some (.int v) ∧ nextF d v = nextF r v)
  · simp! [↓q6, eq_self, nr, qb1, qb2, ur, oj, List.map_cons, List.map_nil, ↓reduceIte, String.reduceEq]; rfl
  · exact walk_dom h
  · exact ⟨rfl, rfl, rfl⟩
  · intro p r ρ σ' hri_
    obtain ⟨rfl, hv, hn⟩ := hri_
    refine in_EEA _ σ' rfl ?_
    apply ends_if_ret (b := decide (v ≤ p.2))
    · simp! [↓q6, eq_self, ↓qC1, ↓qt5, ↓bz, ob_s, pu, nr, qb1, qb2, ur, oj, qc4, ↓reduceIte, List.isEmpty_nil, Bool.and_true, String.reduceEq, hv]; rfl
    · intro hb
      refine ⟨by simp! [↓q6, ↓q25f, callN_max, eq_self, ↓qs1, ↓qs2, ↓bz, ob_s, pu, nr, qb1, qb2, ur, oj, ↓reduceIte, String.reduceEq, hv]; rfl, ?_⟩
      rw [nextF_cons] at hn
      rw [if_pos (of_decide_eq_true hb)] at hn
      exact ⟨by rw [hn]; rfl, rfl⟩
    · intro hb
      apply ends_nil
      rw [nextF_cons] at hn
      rw [if_neg (of_decide_eq_false hb)] at hn
      refine in_AAA rfl rfl ?_ hn
      simp! [eq_self, qb1, qb2, ur, oj, ↓reduceIte, String.reduceEq, hv]
  · intro ρ σ' hri_
    obtain ⟨rfl, hv, hn⟩ := hri_
    apply ends_ret
    · simp! [↓q1, pu]; rfl
    · exact ⟨by rw [hn]; rfl, rfl⟩
theorem eqV_oint (a : Option Int) (b : Int) (σ : Sg) : eqV (oint a) (.int b) σ = some (decide (a = some b), σ) := by
  cases a with
  | none => exact eqV_none_int b σ
  | some i => rw [show (decide (some i = some b)) = decide (i = b) by simp]; exact eqV_int i b σ
theorem has_run {n : Nat} {d : Dom} {v : Int} {σ : Sg} (h : d.length ≤ lim) : call (n + 2) (none, ("has_domains" : Str)) [dom d, .int v] σ = some (.bool (decide (nextF d v = some v)), σ) := by
  apply call_ends rfl rfl rfl rfl
  apply ends_ret
  · simp! [↓q6, ↓q16, ↓q25f, cfu, eq_self, ↓qs1, ↓qs2, ↓qC1, ↓bz, ob_s, pu, nr, qb1, qb2, ur, oj, List.map_cons, List.map_nil, qc1, ↓reduceIte, List.isEmpty_nil, Bool.and_true, String.reduceEq, next_from_run, eqV_oint]; rfl
  · exact ⟨rfl, rfl⟩
noncomputable def upD (d : Dom) (k : Int) : Dom := (d.filter fun p => decide (p.1 ≤ k)).map fun p => (p.1, min p.2 k)
noncomputable def frD (d : Dom) (k : Int) : Dom := (d.filter fun p => decide (p.2 ≥ k)).map fun p => (max p.1 k, p.2)
theorem up_to_run {n : Nat} {d : Dom} {k : Int} {σ : Sg} (h : d.length ≤ lim) : call (n + 1) (none, ("up_to" : Str)) [dom d, .int k] σ = some (dom (upD d k), σ) := by
  apply call_ends rfl rfl rfl rfl
  apply ends_ret
  · simp! [↓q25f, ↓qs1, ↓qs2, ↓bz, qb1, qb2, List.map_cons, List.map_nil]
    rw [ev_comp1 run d (fun p => decide (p.1 ≤ k)) (fun p => run (p.1, min p.2 k)) (fun ρ => ρ "k" = some (.int k)) rfl rfl (walk_dom h) rfl rfl h]
    · simp! [callN_tuple, mkL_f, ↓bz, ob_s, pu]
      rfl
    · intro p hp ρ hk
      refine in_EAAA _ rfl (by simp! [eq_self, qb1, qb2, ur, oj, ↓reduceIte, String.reduceEq, hk]) (by simp! [↓q6, eq_self, ↓qC1, ↓qt5, ↓qtA1, ↓qtA2, ↓bz, ob_s, pu, nr, qb1, qb2, ur, oj, qc4, ↓reduceIte, List.isEmpty_nil, Bool.and_true, String.reduceEq, hk]; by_cases hc : p.1 ≤ k <;> simp [hc, pu]) (fun _ => by simp! [↓q6, ↓q14, ↓q25f, callN_min, lim_2, eq_self, ↓qs1, ↓qs2, ↓bz, ob_s, pu, check_t, nr, qb1, qb2, ur, oj, ↓reduceIte, List.length_cons, List.length_nil, Nat.zero_add, Nat.reduceAdd, String.reduceEq, hk]; rfl)
  · exact ⟨by simp only [dom, upD, List.map_map]; rfl, rfl⟩
theorem from_on_run {n : Nat} {d : Dom} {k : Int} {σ : Sg} (h : d.length ≤ lim) : call (n + 1) (none, ("from_on" : Str)) [dom d, .int k] σ = some (dom (frD d k), σ) := by
  apply call_ends rfl rfl rfl rfl
  apply ends_ret
  · simp! [↓q25f, ↓qs1, ↓qs2, ↓bz, qb1, qb2, List.map_cons, List.map_nil]
    rw [ev_comp1 run d (fun p => decide (p.2 ≥ k)) (fun p => run (max p.1 k, p.2)) (fun ρ => ρ "k" = some (.int k)) rfl rfl (walk_dom h) rfl rfl h]
    · simp! [callN_tuple, mkL_f, ↓bz, ob_s, pu]
      rfl
    · intro p hp ρ hk
      refine in_EAAA _ rfl (by simp! [eq_self, qb1, qb2, ur, oj, ↓reduceIte, String.reduceEq, hk]) (by simp! [↓q6, eq_self, ↓qC1, ↓qt5, ↓qtA1, ↓qtA2, ↓bz, ob_s, pu, nr, qb1, qb2, ur, oj, qc6, ↓reduceIte, List.isEmpty_nil, Bool.and_true, String.reduceEq, hk]; by_cases hc : p.2 ≥ k <;> simp [hc, pu]) (fun _ => by simp! [↓q6, ↓q14, ↓q25f, callN_max, lim_2, eq_self, ↓qs1, ↓qs2, ↓bz, ob_s, pu, check_t, nr, qb1, qb2, ur, oj, ↓reduceIte, List.length_cons, List.length_nil, Nat.zero_add, Nat.reduceAdd, String.reduceEq, hk]; rfl)
  · exact ⟨by simp only [dom, frD, List.map_map]; rfl, rfl⟩
theorem upD_len (d : Dom) (k : Int) : (upD d k).length ≤ d.length := by simp only [upD, List.length_map]; exact List.length_filter_le _ _
theorem frD_len (d : Dom) (k : Int) : (frD d k).length ≤ d.length := by simp only [frD, List.length_map]; exact List.length_filter_le _ _
theorem add_dom {d e : Dom} {σ : Sg} {b : Bool} (h : d.length + e.length ≤ lim) : binV b .Add (dom d) (dom e) σ = some (dom (d ++ e), σ) := by
  refine (binV_addt (xs := d.map run) (ys := e.map run) (by rwa [List.length_map, List.length_map])).trans ?_
  rw [← List.map_append]; rfl
noncomputable def woD (d : Dom) (v : Int) : Dom := upD d (v - 1) ++ frD d (v + 1)
theorem without_run {n : Nat} {d : Dom} {v : Int} {σ : Sg} (h : d.length ≤ 1000) : call (n + 2) (none, ("without" : Str)) [dom d, .int v] σ = some (dom (woD d v), σ) := by
  have h0 : d.length ≤ lim := Nat.le_trans h (by decide)
  have h1 := upD_len d (v - 1)
  have h2 := frD_len d (v + 1)
  have h3 : (upD d (v - 1)).length + (frD d (v + 1)).length ≤ lim := by unfold lim; exact lin [_,_,_] (.h 2 0 (.v 0) (.c 1000) (.h 1 0 (.v 1) (.v 0) (.h 1 0 (.v 2) (.v 0) (.g 1 0 (.a (.v 1) (.v 2)) (.c 1000000))))) rfl h h1 h2
  apply call_ends rfl rfl rfl rfl
  apply ends_ret
  · simp! [↓q3, ↓q6, ↓q8, ↓q25f, cfu, eq_self, ↓qs1, ↓qs2, ↓bz, ob_s, pu, nr, qb1, qb2, ur, oj, List.map_cons, List.map_nil, binV_addi, binV_subi, ↓reduceIte, String.reduceEq, up_to_run, from_on_run, add_dom]
    rfl
  · exact ⟨rfl, rfl⟩
inductive Sn where | le | ge | eq | ne
  deriving DecidableEq
noncomputable def sgn : Sn → V
  | .le => .str ("<=" : Str)
  | .ge => .str (">=" : Str)
  | .eq => .str ("=" : Str)
  | .ne => .str ("!=" : Str)
structure Lit where
  x : Nat
  s : Sn
  k : Int
noncomputable def lit (l : Lit) : V := .tup [.int l.x, sgn l.s, .int l.k]
noncomputable def negL (l : Lit) : Lit := match l.s with
  | .le => ⟨l.x, .ge, l.k + 1⟩
  | .ge => ⟨l.x, .le, l.k - 1⟩
  | .eq => ⟨l.x, .ne, l.k⟩
  | .ne => ⟨l.x, .eq, l.k⟩
theorem negation_run {n : Nat} {l : Lit} {σ : Sg} : call (n + 1) (none, ("negation" : Str)) [lit l] σ = some (lit (negL l), σ) := by
  obtain ⟨x, s, k⟩ := l
  apply call_ends rfl rfl rfl rfl
  apply ends_asg rfl rfl rfl
  cases s
  · apply ends_if_t rfl
    apply ends_ret rfl
    exact ⟨rfl, rfl⟩
  · apply eif rfl
    apply ends_if_t rfl
    apply ends_ret rfl
    exact ⟨rfl, rfl⟩
  · apply eif rfl
    apply eif rfl
    apply ends_ret rfl
    exact ⟨rfl, rfl⟩
  · apply eif rfl
    apply eif rfl
    apply ends_ret rfl
    exact ⟨rfl, rfl⟩
noncomputable def meD : Dom → Int → Dom
  | [], _ => []
  | p :: r, k => (if max p.1 k ≤ min p.2 k then [(max p.1 k, min p.2 k)] else []) ++ (if p.2 < k then meD r k else [])
theorem meD_cons {p : Int × Int} {r : Dom} {k : Int} : meD (p :: r) k = (if max p.1 k ≤ min p.2 k then [(max p.1 k, min p.2 k)] else []) ++ (if p.2 < k then meD r k else []) := rfl
noncomputable def skD (s : Sn) (k : Int) (d : Dom) : Dom := match s with
  | .le => upD d k
  | .ge => frD d k
  | .eq => meD d k
  | .ne => woD d k
theorem idx_dom {d : Dom} {p : Int × Int} {i : Nat} {σ : Sg} (h : d[i]? = some p) (hl : d.length ≤ lim) : idxV (dom d) (.int i) σ = some (run p, σ) :=
  idx_at (by rw [List.getElem?_map, h]; rfl) (by simpa using hl)
theorem methV_tail {xs : List V} {σ : Sg} : methV (.ref σ.length) (Str.ofString "append") (σ ++ [.list xs]) = some ((), σ ++ [.list xs]) := by
  show (getObj σ.length >>= fun ob => need (oList ob) >>= fun _ => pure () : M Unit) _ = _
  rw [bq, getObj_run, List.getElem?_concat_length]; rfl
theorem append_tail {xs : List V} {v : V} {σ : Sg} (hl : xs.length < lim) : callL (Str.ofString "append") (.ref σ.length) [v] (σ ++ [.list xs]) = some (.none, σ ++ [.list (xs ++ [v])]) := by
  show (getObj σ.length >>= fun ob => need (oList ob) >>= fun xs => check (decide (xs.length < lim)) >>= fun _ => setObj σ.length (.list (xs ++ [v])) >>= fun _ => pure V.none : M V) _ = _
  rw [bq, getObj_run, List.getElem?_concat_length]
  show (check (decide (xs.length < lim)) >>= fun _ => setObj σ.length (.list (xs ++ [v])) >>= fun _ => pure V.none : M V) _ = _
  rw [bq, cq, if_pos (decide_eq_true hl)]
  simp [bq, setObj_run, pu]
theorem len_dom {P : Prm} {cf : CF} {sc : Scope} {σ : Sg} {d : Dom} (hg : isGlob sc (Str.ofString "len") = true) (h : d.length ≤ lim) : callN P cf sc (Str.ofString "len") [dom d] σ = some (.int d.length, σ) := by
  rw [dom, callN_len_t hg (by simpa using h), List.length_map]
theorem meet_run {n : Nat} {d : Dom} {k : Int} {σ : Sg} (h : d.length ≤ 500) : call (n + 1) (none, ("meet" : Str)) [dom d, dom [(k, k)]] σ = some (dom (meD d k), σ ++ [.list ((meD d k).map run)]) := by
  have hl : d.length ≤ lim := Nat.le_trans h (by decide)
  have hl1 : [(k, k)].length ≤ lim := (by decide : 1 ≤ lim)
  apply call_ends rfl rfl rfl rfl
  apply ends_asg
  · simp! [↓q3, ↓q13, ↓q14, ↓qs1, ↓qs2, ↓bz, ob_s, pu]; rfl
  · rfl
  · rfl
  apply ends_while (fun m ρ σ' => ρ "d" = some (dom d) ∧ ρ "e" = some (dom [(k, k)]) ∧ ρ "found" = some (.ref σ.length) ∧ ∃ acc : Dom, acc.length ≤ 1000 ∧ σ' = σ ++ [.list (acc.map run)] ∧ ∃ i j : Nat, ρ "i" = some (.int i) ∧ ρ "j" = some (.int j) ∧ acc.length ≤ i + j ∧
    ((j = 0 ∧ i ≤ d.length ∧ acc ++ meD (d.drop i) k = meD d k ∧ m = d.length - i + 1) ∨ (j = 1 ∧ i ≤ d.length ∧ acc = meD d k))) (d.length + 1) (by exact lin [_] (.h 1 0 (.v 0) (.c 500) (.g 1 1 (.a (.v 0) (.c 1)) (.c 1000))) rfl h)
  · refine in_AAAEAA rfl rfl rfl ([]) (by simp) rfl (in_EEAAA 0 0 rfl rfl (by simp) (.inl ⟨rfl, by exact lin [_] (.g 1 0 (.c 0) (.v 0)) rfl, rfl, by omega⟩))
  · intro m ρ σ' hri_
    obtain ⟨h1, h2, h3, acc, hacc, rfl, i, j, h4, h5, hij, hc⟩ := hri_
    have hal : acc.length < lim := Nat.lt_of_le_of_lt hacc (by decide)
    refine in_EAA (decide (i < d.length) && decide (j < 1)) ?_ ?_ ?_
    · by_cases c1 : i < d.length
      · have c1' : (i : Int) < d.length := by exact lini [_,_] (.h 1 1 (.v 0) (.v 1) (.g 1 1 (.v 0) (.v 1))) rfl (Int.ofNat_lt.mpr c1)
        by_cases c2 : j < 1
        · have c2' : (j : Int) < ((1 : Nat) : Int) := by exact lini [_] (.h 1 1 (.v 0) (.c 1) (.g 1 1 (.v 0) (.c 1))) rfl (Int.ofNat_lt.mpr c2)
          have c2'' : (j : Int) < 1 := by exact lini [_] (.h 1 1 (.v 0) (.c 1) (.g 1 1 (.v 0) (.c 1))) rfl c2'
          simp! [↓q6, ↓q25f, eq_self, ↓qs1, ↓qs2, ↓qC1, ↓qt3, ↓qt5, ↓qtB1, ↓qtB2, ↓bz, ob_s, pu, nr, qc3, ↓reduceIte, List.isEmpty_nil, Bool.and_true, beq_self_eq_true, List.length_cons, List.length_nil, Nat.zero_add, decide_true, h1, h2, h4, h5, len_dom, c1, c1', c2, c2']
        · have c2' : ¬ (j : Int) < ((1 : Nat) : Int) := by omega
          have c2'' : ¬ (j : Int) < 1 := by exact lini [_] (.h 1 5 (.v 0) (.c 1) (.g 1 5 (.v 0) (.c 1))) rfl c2'
          simp! [↓q6, ↓q25f, eq_self, ↓qs1, ↓qs2, ↓qC1, ↓qt3, ↓qt5, ↓qtB1, ↓qtB2, ↓bz, ob_s, pu, nr, qc3, ↓reduceIte, List.isEmpty_nil, Bool.and_true, Bool.and_false, List.length_cons, List.length_nil, Nat.zero_add, decide_true, decide_false, h1, h2, h4, h5, len_dom, c1, c1', c2, c2']
      · have c1' : ¬ (i : Int) < d.length := by omega
        simp! [↓q6, ↓q25f, eq_self, ↓qs1, ↓qs2, ↓qC1, ↓qt3, ↓qt5, ↓qtB1, ↓qtB2, ↓bz, ob_s, pu, nr, qc3, ↓reduceIte, List.isEmpty_nil, Bool.and_true, Bool.false_and, decide_false, h1, h4, len_dom, c1, c1']
    · intro hb
      simp only [Bool.and_eq_true, decide_eq_true_iff] at hb
      obtain ⟨c1, c2⟩ := hb
      obtain ⟨rfl, _, hm, rfl⟩ : j = 0 ∧ i ≤ d.length ∧ acc ++ meD (d.drop i) k = meD d k ∧ m = d.length - i + 1 := by
        rcases hc with hc | hc
        · exact hc
        · exact ⟨Nat.le_antisymm (lin [_] (.h 1 1 (.v 0) (.c 1) (.g 1 0 (.v 0) (.c 0))) rfl c2) (lin [_] (.g 1 0 (.c 0) (.v 0)) rfl), (lin [_] (.h 1 1 (.v 0) (.c 1) (.h 1 3 (.v 0) (.c 1) .f)) rfl c2 hc.1).elim, (lin [_] (.h 1 1 (.v 0) (.c 1) (.h 1 3 (.v 0) (.c 1) .f)) rfl c2 hc.1).elim, Nat.le_antisymm ((lin [_] (.h 1 1 (.v 0) (.c 1) (.h 1 3 (.v 0) (.c 1) .f)) rfl c2 hc.1).elim) ((lin [_] (.h 1 1 (.v 0) (.c 1) (.h 1 3 (.v 0) (.c 1) .f)) rfl c2 hc.1).elim)⟩
      refine ⟨d.length - i, rfl, ?_⟩
      have hp : d[i]? = some d[i] := List.getElem?_eq_getElem c1
      generalize d[i] = p at hp
      have hdrop : d.drop i = p :: d.drop (i + 1) := by
        rw [List.drop_eq_getElem_cons c1]
        congr 1
        have := List.getElem?_eq_getElem c1
        rw [hp] at this
        exact (Option.some.inj this).symm
      have he : ([(k, k)] : Dom)[0]? = some (k, k) := rfl
      rw [hdrop, meD_cons] at hm
      apply ends_asg
      · simp! [↓q3, ↓q6, ↓q14, ↓q21f, ↓q25f, callN_max, callN_min, lim_2, ↓qs1, ↓qs2, ↓bz, ob_s, pu, check_t, nr, List.length_cons, List.length_nil, Nat.zero_add, Nat.reduceAdd, idx_run0, idx_run1, h1, h2, h4, h5, idx_dom hp hl, show ∀ s, idxV (dom [(k, k)]) (.int ((0 : Nat) : Int)) s = some (run (k, k), s) from fun s => idx_dom he hl1]
        rfl
      · rfl
      · rfl
      have second : ∀ acc' : Dom, acc'.length ≤ i + 1 → acc' ++ (if p.2 < k then meD (d.drop (i + 1)) k else []) = meD d k → ∀ ρ' : Rho, ρ' "d" = some (dom d) → ρ' "e" = some (dom [(k, k)]) → ρ' "found" = some (.ref σ.length) → ρ' "i" = some (.int i) → ρ' "j" = some (.int (0 : Nat)) →
          ∀ Q : Fl → Rho → Sg → Prop, (∀ ρ2 : Rho, ρ2 "d" = some (dom d) → ρ2 "e" = some (dom [(k, k)]) → ρ2 "found" = some (.ref σ.length) → (∃ i' j' : Nat, ρ2 "i" = some (.int i') ∧ ρ2 "j" = some (.int j') ∧ acc'.length ≤ i' + j' ∧
            ((j' = 0 ∧ i' ≤ d.length ∧ acc' ++ meD (d.drop i') k = meD d k ∧ d.length - i = d.length - i' + 1) ∨ (j' = 1 ∧ i' ≤ d.length ∧ acc' = meD d k ∧ True))) → Q .next ρ2 (σ ++ [.list (acc'.map run)])) → Ends (exs prm (call n) ((tab' (none, ("meet" : Str))).getD default).scope ρ' ((((tab' (none, ("meet" : Str))).getD default).body[1]?.bind stOf).elim [] fun p => p.2.1.drop 2) (σ ++ [.list (acc'.map run)])) Q := by
        intro acc' ha hm2 ρ' g1 g2 g3 g4 g5 Q hQ
        by_cases c4 : p.2 < k
        · rw [if_pos c4] at hm2
          apply ends_if_t
          · simp! [↓q3, ↓q6, ↓q21f, eq_self, ↓qC1, ↓qt5, ↓bz, ob_s, pu, nr, qc3, ↓reduceIte, List.isEmpty_nil, Bool.and_true, decide_true, idx_run1, g1, g2, g4, g5, idx_dom hp hl, show ∀ s, idxV (dom [(k, k)]) (.int ((0 : Nat) : Int)) s = some (run (k, k), s) from fun s => idx_dom he hl1, c4]
            rfl
          apply ends_asg
          · simp! [↓q3, ↓q6, ↓q8, ↓bz, ob_s, pu, nr, binV_addi, g4]
            rfl
          · rfl
          · rfl
          apply ends_nil
          apply ends_nil
          refine hQ (upd ρ' _ _) (by exact g1) (by exact g2) (by exact g3) ⟨i + 1, 0, by rfl, by exact g5, by exact lin [_,_] (.h 1 0 (.v 0) (.a (.v 1) (.c 1)) (.g 1 0 (.v 0) (.a (.a (.v 1) (.c 1)) (.c 0)))) rfl ha, .inl ⟨rfl, by exact lin [_,_] (.h 1 1 (.v 0) (.v 1) (.g 1 0 (.a (.v 0) (.c 1)) (.v 1))) rfl c1, hm2, by omega⟩⟩
        · rw [if_neg c4, List.append_nil] at hm2
          apply ends_if_f
          · simp! [↓q3, ↓q6, ↓q21f, eq_self, ↓qC1, ↓qt5, ↓bz, ob_s, pu, nr, qc3, ↓reduceIte, List.isEmpty_nil, Bool.and_true, decide_false, idx_run1, g1, g2, g4, g5, idx_dom hp hl, show ∀ s, idxV (dom [(k, k)]) (.int ((0 : Nat) : Int)) s = some (run (k, k), s) from fun s => idx_dom he hl1, c4]
            rfl
          apply ends_asg
          · simp! [↓q3, ↓q6, ↓q8, ↓bz, ob_s, pu, nr, binV_addi, g5]
            rfl
          · rfl
          · rfl
          apply ends_nil
          apply ends_nil
          refine hQ (upd ρ' _ _) (by exact g1) (by exact g2) (by exact g3) ⟨i, 1, by exact g4, by rfl, by exact lin [_,_] (.h 1 0 (.v 0) (.a (.v 1) (.c 1)) (.g 1 0 (.v 0) (.a (.v 1) (.c 1)))) rfl ha, .inr ⟨rfl, by exact lin [_,_] (.h 1 1 (.v 0) (.v 1) (.g 1 0 (.v 0) (.v 1))) rfl c1, hm2, trivial⟩⟩
      by_cases c3 : max p.1 k ≤ min p.2 k
      · rw [if_pos c3] at hm
        apply ends_if_t
        · simp! [↓q6, eq_self, ↓qC1, ↓qt5, ↓bz, ob_s, pu, nr, qb1, qb2, ur, oj, qc4, ↓reduceIte, List.isEmpty_nil, Bool.and_true, decide_true, String.reduceEq, c3]
          rfl
        apply ends_expr
        · have : (acc.map run).length < lim := by simpa using hal
          simp! [↓q6, ↓q14, ↓q22f, lim_2, eq_self, ↓qs1, ↓qs2, ↓bz, ob_s, pu, check_t, nr, qb1, qb2, ur, oj, ↓reduceIte, Bool.and_true, List.length_cons, List.length_nil, Nat.zero_add, Nat.reduceAdd, Nat.reduceLT, decide_true, String.reduceEq, h3, methV_tail, append_tail]
          rfl
        · rfl
        apply ends_nil
        have e1 : acc.map run ++ [.tup [.int (max p.1 k), .int (min p.2 k)]] = (acc ++ [(max p.1 k, min p.2 k)]).map run := by simp [run]
        rw [e1]
        dsimp only
        refine second (acc ++ [(max p.1 k, min p.2 k)]) (by simp; exact lin [_,_] (.h 1 0 (.v 0) (.a (.v 1) (.c 0)) (.g 1 0 (.v 0) (.v 1))) rfl hij) (by simpa using hm) _ (by exact h1) (by exact h2) (by exact h3) (by exact h4) (by exact h5) _ ?_
        intro ρ2 g1 g2 g3 hri_
        obtain ⟨i', j', g4, g5, g6, hc'⟩ := hri_
        refine in_AAAEAA g1 g2 g3 _ ?_ rfl (in_EEAAA i' j' g4 g5 g6 ?_)
        · simp; exact lin [_,_,_] (.h 1 0 (.v 0) (.c 500) (.h 1 1 (.v 1) (.v 0) (.h 1 0 (.v 2) (.a (.v 1) (.c 0)) (.g 1 0 (.v 2) (.c 999))))) rfl h c1 hij
        · rcases hc' with ⟨e1, e2, e3, e4⟩ | ⟨e1, e2, e3, _⟩
          · exact .inl ⟨e1, e2, e3, e4⟩
          · exact .inr ⟨e1, e2, e3⟩
      · rw [if_neg c3, List.nil_append] at hm
        apply eif
        · simp! [↓q6, eq_self, ↓qC1, ↓qt5, ↓bz, ob_s, pu, nr, qb1, qb2, ur, oj, qc4, ↓reduceIte, List.isEmpty_nil, Bool.and_true, decide_false, String.reduceEq, c3]
          rfl
        refine second acc (by exact lin [_,_] (.h 1 0 (.v 0) (.a (.v 1) (.c 0)) (.g 1 0 (.v 0) (.a (.v 1) (.c 1)))) rfl hij) hm _ (by exact h1) (by exact h2) (by exact h3) (by exact h4) (by exact h5) _ ?_
        intro ρ2 g1 g2 g3 hri_
        obtain ⟨i', j', g4, g5, g6, hc'⟩ := hri_
        refine in_AAAEAA g1 g2 g3 _ ?_ rfl (in_EEAAA i' j' g4 g5 g6 ?_)
        · exact lin [_] (.h 1 0 (.v 0) (.c 1000) (.g 1 0 (.v 0) (.c 1000))) rfl hacc
        · rcases hc' with ⟨e1, e2, e3, e4⟩ | ⟨e1, e2, e3, _⟩
          · exact .inl ⟨e1, e2, e3, e4⟩
          · exact .inr ⟨e1, e2, e3⟩
    · intro hb
      have hfin : acc = meD d k := by
        rcases hc with ⟨rfl, h6, h7, _⟩ | hc
        · have : i = d.length := by simp at hb; exact Nat.le_antisymm (lin [_,_] (.h 1 0 (.v 0) (.v 1) (.g 1 0 (.v 0) (.v 1))) rfl h6) (lin [_,_] (.h 1 0 (.v 0) (.v 1) (.g 1 0 (.v 0) (.v 1))) rfl hb)
          subst this
          rw [← h7, List.drop_length]; exact (List.append_nil acc).symm
        · exact hc.2.2
      apply ends_ret
      · simp! [↓q6, ↓q25f, ↓qs1, ↓qs2, ↓bz, ob_s, pu, nr, h3]
        rw [callN_tuple_r rfl (xs := acc.map run) (by simp) (by simp; exact lin [_] (.h 1 0 (.v 0) (.c 1000) (.g 1 0 (.v 0) (.c 1000000))) rfl hacc)]
      · exact ⟨by rw [← hfin]; rfl, by rw [hfin]⟩
theorem struck_run {n : Nat} {l : Lit} {d : Dom} {σ : Sg} (h : d.length ≤ 500) : ∃ g, call (n + 3) (none, ("struck" : Str)) [lit l, dom d] σ = some (dom (skD l.s l.k d), σ ++ g) := by
  have hl : d.length ≤ lim := Nat.le_trans h (by decide)
  have h2 : d.length ≤ 1000 := by exact lin [_] (.h 1 0 (.v 0) (.c 500) (.g 1 0 (.v 0) (.c 1000))) rfl h
  obtain ⟨x, s, k⟩ := l
  cases s
  · refine ⟨[], ?_⟩
    rw [List.append_nil]
    apply call_ends rfl rfl rfl rfl
    apply ends_asg rfl rfl rfl
    apply ends_if_t rfl
    apply ends_ret
    · simp! [↓q6, ↓q25f, cfu, eq_self, ↓qs1, ↓qs2, ↓bz, ob_s, pu, nr, qb1, qb2, ur, oj, List.map_cons, List.map_nil, ↓reduceIte, String.reduceEq, sgn, up_to_run]
      rfl
    · exact ⟨rfl, rfl⟩
  · refine ⟨[], ?_⟩
    rw [List.append_nil]
    apply call_ends rfl rfl rfl rfl
    apply ends_asg rfl rfl rfl
    apply eif rfl
    apply ends_if_t rfl
    apply ends_ret
    · simp! [↓q6, ↓q25f, cfu, eq_self, ↓qs1, ↓qs2, ↓bz, ob_s, pu, nr, qb1, qb2, ur, oj, List.map_cons, List.map_nil, ↓reduceIte, String.reduceEq, sgn, from_on_run]
      rfl
    · exact ⟨rfl, rfl⟩
  · refine ⟨[.list ((meD d k).map run)], ?_⟩
    apply call_ends rfl rfl rfl rfl
    apply ends_asg rfl rfl rfl
    apply eif rfl
    apply eif rfl
    apply ends_ret
    · simp! [↓q4, ↓q6, ↓q10, ↓q14, ↓q25f, cfu, lim_1, lim_2, eq_self, ↓qs1, ↓qs2, ↓qC1, ↓qt5, ↓bz, ob_s, pu, check_t, nr, qb1, qb2, ur, oj, List.map_cons, List.map_nil, qc1, ↓reduceIte, List.isEmpty_nil, Bool.and_true, beq_self_eq_true, List.length_cons, List.length_nil, Nat.zero_add, Nat.reduceAdd, String.reduceEq, eqV_str, sgn, show V.tup [V.tup [V.int k, V.int k]] = dom [(k, k)] from rfl, meet_run]
      rfl
    · exact ⟨rfl, rfl⟩
  · refine ⟨[], ?_⟩
    rw [List.append_nil]
    apply call_ends rfl rfl rfl rfl
    apply ends_asg rfl rfl rfl
    apply eif rfl
    apply eif rfl
    apply ends_ret
    · simp! [↓q4, ↓q6, ↓q10, ↓q25f, cfu, eq_self, ↓qs1, ↓qs2, ↓qC1, ↓qt5, ↓bz, ob_s, pu, nr, qb1, qb2, ur, oj, ofS_beq, List.map_cons, List.map_nil, Bool.false_eq_true, qc1, ↓reduceIte, List.isEmpty_nil, Bool.and_true, String.reduceEq, String.reduceBEq, eqV_str, sgn, without_run]
      rfl
    · exact ⟨rfl, rfl⟩
end
section
open PySem
set_option maxRecDepth 100000
set_option backward.defeqAttrib.useBackward true
noncomputable def rV : Option (List Lit) → V
  | none => .none
  | some rs => .tup (rs.map lit)
structure En where
  x : Nat
  old : Dom
  l : Lit
  rs : Option (List Lit)
noncomputable def en (e : En) : V := .tup [.int e.x, dom e.old, lit e.l, rV e.rs, .int (-1)]
structure Wd where
  jug : List Int
  mkv : V
  nw : V
  f : Bool
  cl : V
  doms : List Dom
  firsts : List Dom
  trail : List En
  marks : List Int
  nn : Nat
  rest : Sg
noncomputable def sfs (mk nw : V) (f : Bool) (cl : V) : List (Str × V) := [("domains", .ref 2), ("firsts", .ref 3), ("trail", .ref 4), ("marks", mk), ("news", nw), ("speaker", .int (-1)), ("is_failed", .bool f), ("clash", cl)]
noncomputable def Wd.g (w : Wd) : Sg := .list (w.jug.map .int) :: .fields (sfs w.mkv w.nw w.f w.cl) :: .list (w.doms.map dom) :: .list (w.firsts.map dom) :: .list (w.trail.map en) :: .list (w.marks.map .int) :: .dict w.nn :: w.rest
noncomputable abbrev stv : V := .inst (Str.ofString "Store") 1
section
variable {w : Wd} {n : Nat}
theorem at_domains : attrV stv (Str.ofString "domains") w.g = some (.ref 2, w.g) := rfl
theorem at_firsts : attrV stv (Str.ofString "firsts") w.g = some (.ref 3, w.g) := rfl
theorem at_trail : attrV stv (Str.ofString "trail") w.g = some (.ref 4, w.g) := rfl
theorem at_marks : attrV stv (Str.ofString "marks") w.g = some (w.mkv, w.g) := rfl
theorem at_news : attrV stv (Str.ofString "news") w.g = some (w.nw, w.g) := rfl
theorem at_speaker : attrV stv (Str.ofString "speaker") w.g = some (.int (-1), w.g) := rfl
theorem at_failed : attrV stv (Str.ofString "is_failed") w.g = some (.bool w.f, w.g) := rfl
theorem at_clash : attrV stv (Str.ofString "clash") w.g = some (w.cl, w.g) := rfl
theorem st_failed {b : Bool} : setAttrV stv (Str.ofString "is_failed") (.bool b) w.g = some ((), { w with f := b }.g) := rfl
theorem st_clash {v : V} : setAttrV stv (Str.ofString "clash") v w.g = some ((), { w with cl := v }.g) := rfl
theorem st_marks {v : V} : setAttrV stv (Str.ofString "marks") v w.g = some ((), { w with mkv := v }.g) := rfl
theorem st_news {v : V} : setAttrV stv (Str.ofString "news") v w.g = some ((), { w with nw := v }.g) := rfl
theorem meth_st {m : Str} (h : ((sfs w.mkv w.nw w.f w.cl).lookup m).isNone = true) : methV stv m w.g = some ((), w.g) := by
  show check ((sfs w.mkv w.nw w.f w.cl).lookup m).isNone w.g = _
  rw [h]; rfl
theorem idx_doms {d : Dom} {i : Nat} (h : w.doms[i]? = some d) (hl : w.doms.length ≤ lim) : idxV (.ref 2) (.int i) w.g = some (dom d, w.g) :=
  idx_ref (xs := w.doms.map dom) rfl (by rw [List.getElem?_map, h]; rfl) (by simpa using hl)
theorem set_doms {d : Dom} {i : Nat} (h : i < w.doms.length) (hl : w.doms.length ≤ lim) : setIdxV (.ref 2) (.int i) (dom d) w.g = some ((), { w with doms := w.doms.set i d }.g) := by
  show (do check (decide (0 ≤ (i : Int)) && decide ((i : Int) < (w.doms.map dom).length) && decide ((w.doms.map dom).length ≤ lim)); setObj 2 (.list ((w.doms.map dom).set (i : Int).toNat (dom d))) : M Unit) w.g = _
  rw [bq, cq, if_pos (by simp [h, hl])]
  show some ((), _) = _
  simp only [Int.toNat_natCast]
  rw [← List.map_set]
  rfl
theorem set_news {i : Int} {v : V} (h : w.nn < lim) : setIdxV (.ref 6) (.int i) v w.g = some ((), { w with nn := w.nn + 1 }.g) := by
  show (do check (decide (w.nn < lim)); setObj 6 (.dict (w.nn + 1)) : M Unit) w.g = _
  rw [bq, cq, if_pos (decide_eq_true h)]
  rfl
theorem meth_trail : methV (.ref 4) (Str.ofString "append") w.g = some ((), w.g) := rfl
theorem app_trail {e : En} (h : w.trail.length < lim) : callL (Str.ofString "append") (.ref 4) [en e] w.g = some (.none, { w with trail := w.trail ++ [e] }.g) := by
  show (do check (decide ((w.trail.map en).length < lim)); setObj 4 (.list (w.trail.map en ++ [en e])); pure V.none : M V) w.g = _
  rw [bq, cq, if_pos (by simpa using h)]
  simp only [Wd.g, List.map_append]
  rfl
theorem fail_run {rs : List V} (h : rs.length ≤ lim) : call (n + 1) (some (Str.ofString "Store"), ("fail" : Str)) [stv, .tup rs] w.g = some (.bool false, { w with f := true, cl := .tup rs }.g) := by
  apply call_ends rfl rfl rfl rfl
  apply ends_asg
  · simp! [↓q2, pu]; rfl
  · rfl
  · simp! [↓q6, eq_self, ↓qa5, ↓bz, ob_s, pu, nr, qb1, qb2, ur, oj, List.map_cons, List.map_nil, ↓reduceIte, String.reduceEq, st_failed]; rfl
  apply ends_asg
  · simp! [↓q6, ↓q25f, eq_self, ↓qs1, ↓qs2, ↓bz, ob_s, pu, nr, ur, ↓reduceIte, callN_tuple_t]; rfl
  · rfl
  · simp! [↓q6, eq_self, ↓qa5, ↓bz, ob_s, pu, nr, ur, oj, ↓reduceIte, String.reduceEq, st_clash]; rfl
  apply ends_ret
  · simp! [↓q2, pu]; rfl
  · exact ⟨rfl, rfl⟩
theorem lit_idx0 {l : Lit} {σ : Sg} : idxV (lit l) (.int 0) σ = some (.int l.x, σ) := rfl
noncomputable def rsOf : Option (List Lit) → List Lit
  | none => []
  | some rs => rs
theorem enter_run {l : Lit} {rs : Option (List Lit)} {d : Dom} (hd : w.doms[l.x]? = some d) (hlen : d.length ≤ 500) (hrs : (rsOf rs).length ≤ 1000) (ht : w.trail.length < 1000) (hn : w.nn < 1000) (hD : w.doms.length ≤ 1000) (hnw : w.nw = .ref 6) :
    CallQ (n + 4) (some (Str.ofString "Store"), ("enter" : Str)) [stv, lit l, rV rs, .int (-1)] w.g fun v s => ∃ g,
      (skD l.s l.k d = [] ∧ v = .bool false ∧ s = { w with f := true, cl := .tup ((rsOf rs ++ [negL l]).map lit), rest := w.rest ++ g }.g) ∨
      (skD l.s l.k d ≠ [] ∧ v = .bool true ∧ ∃ nn, nn ≤ w.nn + 1 ∧ s = { w with doms := w.doms.set l.x (skD l.s l.k d), trail := w.trail ++ (if skD l.s l.k d = d then [] else [(⟨l.x, d, l, rs⟩ : En)]), nn := nn, rest := w.rest ++ g }.g) := by
  obtain ⟨g, hs⟩ := struck_run (n := n) (l := l) (d := d) (σ := w.g) hlen
  have hg : w.g ++ g = { w with rest := w.rest ++ g }.g := rfl
  rw [hg] at hs
  have hD' : w.doms.length ≤ lim := Nat.le_trans hD (by decide)
  have hx : l.x < w.doms.length := (List.getElem?_eq_some_iff.mp hd).1
  have hset : w.doms.set l.x d = w.doms := by
    obtain ⟨h1, h2⟩ := List.getElem?_eq_some_iff.mp hd
    rw [← h2]; exact List.set_getElem_self h1
  generalize hfr : skD l.s l.k d = fr at *
  generalize hw1 : ({ w with rest := w.rest ++ g } : Wd) = w1 at hs
  have hr1 : (rsOf rs).length + 1 ≤ lim := Nat.le_trans (by exact lin [_] (.h 1 0 (.v 0) (.c 1000) (.g 1 0 (.a (.v 0) (.c 1)) (.c 1001))) rfl hrs : _ ≤ 1001) (by decide)
  have htr : w.trail.length < lim := Nat.lt_of_lt_of_le ht (by decide)
  have hnn : w.nn < lim := Nat.lt_of_lt_of_le hn (by decide)
  apply callQ rfl rfl rfl rfl
  apply ends_asg
  · simp! [↓q3, ↓q6, ↓q21f, eq_self, ↓bz, ob_s, pu, nr, qb1, qb2, ur, oj, List.map_cons, List.map_nil, ↓reduceIte, String.reduceEq, lit_idx0]; rfl
  · rfl
  · rfl
  apply ends_asg
  · simp! [↓q6, ↓q17f, ↓q21f, eq_self, ↓bz, ob_s, nr, qb1, qb2, ur, oj, List.map_cons, List.map_nil, ↓reduceIte, String.reduceEq, at_domains, idx_doms hd hD']; rfl
  · rfl
  · rfl
  apply ends_asg
  · simp! [↓q6, ↓q25f, cfu, eq_self, ↓qs1, ↓qs2, ↓bz, ob_s, pu, nr, qb1, qb2, ur, oj, List.map_cons, List.map_nil, ↓reduceIte, String.reduceEq, hs]; rfl
  · rfl
  · rfl
  by_cases c1 : fr = []
  · refine eq_l c1 ?_
    apply ends_if_t
    · simp! [↓q6, ↓q14, lim_0, eq_self, ↓qs1, ↓qC1, ↓qt5, ↓bz, ob_s, pu, check_t, nr, qb1, qb2, ur, List.map_cons, List.map_nil, qc1, ↓reduceIte, List.isEmpty_nil, Bool.and_true, List.length_nil, decide_true, eqV_dom_nil]; rfl
    have h0 : ([] : List V).length + [lit (negL l)].length ≤ lim := (by decide : 1 ≤ lim)
    have fin : ∀ rr : List Lit, ({ w1 with f := true, cl := .tup (rr.map lit) } : Wd).g = { w with f := true, cl := .tup (rr.map lit), rest := w.rest ++ g }.g := by
      intro rr; subst hw1; rfl
    cases rs with
    | none =>
      apply ends_ret (v := .bool false) (σ1 := ({ w1 with f := true, cl := .tup ([negL l].map lit) } : Wd).g)
      · simp! [↓q1, ↓q6, ↓q8, ↓q10, ↓q14, ↓q22f, ↓q25f, cfu, lim_0, lim_1, eq_self, ↓qs1, ↓qs2, ↓qC1, ↓qt5, ↓bz, ob_s, pu, check_t, nr, qb1, qb2, ur, oj, List.map_cons, List.map_nil, qc7, binV_addt, ↓reduceIte, List.isEmpty_nil, Bool.and_true, List.length_cons, List.length_nil, Nat.zero_add, Nat.reduceAdd, Nat.reduceLT, decide_true, String.reduceEq, rV, meth_st, negation_run, binV_addt, List.nil_append]
        rw [fail_run (show ([lit (negL l)] : List V).length ≤ lim from (by decide : 1 ≤ lim))]
      · exact ⟨g, .inl ⟨rfl, rfl, fin _⟩⟩
    | some rs =>
      have h1 : (rs.map lit).length + [lit (negL l)].length ≤ lim := by simpa [rsOf] using hr1
      apply ends_ret (v := .bool false) (σ1 := ({ w1 with f := true, cl := .tup ((rs ++ [negL l]).map lit) } : Wd).g)
      · simp! [↓q1, ↓q6, ↓q8, ↓q10, ↓q14, ↓q22f, ↓q25f, cfu, lim_1, eq_self, ↓qs1, ↓qs2, ↓qC1, ↓qt5, ↓bz, ob_s, pu, check_t, nr, qb1, qb2, ur, oj, List.map_cons, List.map_nil, Bool.false_eq_true, qc8, binV_addt, ↓reduceIte, List.isEmpty_nil, Bool.and_true, List.length_cons, List.length_nil, Nat.zero_add, Nat.reduceAdd, Nat.reduceLT, decide_true, String.reduceEq, rV, meth_st, negation_run, binV_addt]
        rw [fail_run (by simpa [rsOf] using hr1), List.map_append]
        rfl
      · exact ⟨g, .inl ⟨rfl, rfl, fin _⟩⟩
  · apply eif
    · simp! [↓q6, ↓q14, lim_0, eq_self, ↓qs1, ↓qC1, ↓qt5, ↓bz, ob_s, pu, check_t, nr, qb1, qb2, ur, List.map_cons, List.map_nil, qc1, ↓reduceIte, List.isEmpty_nil, Bool.and_true, List.length_nil, decide_false, eqV_dom_nil, c1]; rfl
    by_cases c2 : fr = d
    · subst c2
      apply ends_if_t
      · simp! [↓q6, eq_self, ↓qC1, ↓qt5, ↓bz, ob_s, pu, nr, qb1, qb2, ur, oj, List.map_cons, List.map_nil, qc1, ↓reduceIte, List.isEmpty_nil, Bool.and_true, decide_true, String.reduceEq, eqV_dom]; rfl
      apply ends_ret
      · simp! [↓q2, pu]; rfl
      · refine ⟨g, .inr ⟨c1, rfl, w.nn, by exact lin [_] (.g 1 0 (.v 0) (.a (.v 0) (.c 1))) rfl, ?_⟩⟩
        rw [hset, if_pos rfl, List.append_nil, ← hw1]
    · apply eif
      · simp! [↓q6, eq_self, ↓qC1, ↓qt5, ↓bz, ob_s, pu, nr, qb1, qb2, ur, oj, List.map_cons, List.map_nil, qc1, ↓reduceIte, List.isEmpty_nil, Bool.and_true, decide_false, String.reduceEq, eqV_dom, c2]; rfl
      have he : V.tup [.int l.x, dom d, lit l, rV rs, .int (-1)] = en ⟨l.x, d, l, rs⟩ := rfl
      apply ends_expr
      · simp! [↓q6, ↓q14, ↓q17f, ↓q22f, lim_5, eq_self, ↓qs1, ↓qs2, ↓bz, ob_s, pu, check_t, nr, qb1, qb2, ur, oj, List.map_cons, List.map_nil, ↓reduceIte, Bool.and_true, List.length_cons, List.length_nil, Nat.zero_add, Nat.reduceAdd, Nat.reduceLT, decide_true, String.reduceEq, at_trail, meth_trail, he]
        rw [app_trail (by rw [← hw1]; exact htr)]
      · rfl
      apply ends_asg
      · simp! [↓q6, eq_self, nr, qb1, qb2, ur, List.map_cons, List.map_nil, ↓reduceIte]; rfl
      · rfl
      · simp! [↓q6, ↓q17f, eq_self, ↓qa6f, ↓bz, ob_s, nr, qb1, qb2, ur, oj, List.map_cons, List.map_nil, ↓reduceIte, String.reduceEq, at_domains]
        rw [set_doms (by rw [← hw1]; exact hx) (by rw [← hw1]; exact hD')]
        rfl
      apply ends_asg
      · simp! [↓q2, pu]; rfl
      · rfl
      · simp! [↓q6, ↓q17f, eq_self, ↓qa6f, ↓bz, ob_s, nr, qb1, qb2, ur, oj, List.map_cons, List.map_nil, ↓reduceIte, String.reduceEq, at_news]
        rw [show w1.nw = .ref 6 by rw [← hw1]; exact hnw]
        rw [set_news (by rw [← hw1]; exact hnn)]
        rfl
      apply ends_ret
      · simp! [↓q2, pu]; rfl
      · refine ⟨g, .inr ⟨c1, rfl, w.nn + 1, by exact lin [_] (.g 1 0 (.a (.v 0) (.c 1)) (.a (.v 0) (.c 1))) rfl, ?_⟩⟩
        rw [if_neg c2, ← hw1]
        simp only [Wd.g, hnw]
end
end
section
open PySem
set_option maxRecDepth 100000
set_option backward.defeqAttrib.useBackward true
noncomputable def Ent (w : Wd) (l : Lit) (rs : Option (List Lit)) (d : Dom) (b : Bool) (w' : Wd) : Prop := ∃ g,
  (skD l.s l.k d = [] ∧ b = false ∧ w' = { w with f := true, cl := .tup ((rsOf rs ++ [negL l]).map lit), rest := w.rest ++ g }) ∨
  (skD l.s l.k d ≠ [] ∧ b = true ∧ ∃ nn, nn ≤ w.nn + 1 ∧ w' = { w with doms := w.doms.set l.x (skD l.s l.k d), trail := w.trail ++ (if skD l.s l.k d = d then [] else [(⟨l.x, d, l, rs⟩ : En)]), nn := nn, rest := w.rest ++ g })
section
variable {w : Wd} {n : Nat}
theorem callQ_get {key : Key} {args : List V} {σ : Sg} {Q : V → Sg → Prop} (h : CallQ n key args σ Q) : ∃ v s, call n key args σ = some (v, s) ∧ Q v s := h
theorem enter_ent {l : Lit} {rs : Option (List Lit)} {d : Dom} (hd : w.doms[l.x]? = some d) (hlen : d.length ≤ 500) (hrs : (rsOf rs).length ≤ 1000) (ht : w.trail.length < 1000) (hn : w.nn < 1000) (hD : w.doms.length ≤ 1000) (hnw : w.nw = .ref 6) :
    ∃ b w', call (n + 4) (some (Str.ofString "Store"), ("enter" : Str)) [stv, lit l, rV rs, .int (-1)] w.g = some (.bool b, w'.g) ∧ Ent w l rs d b w' := by
  obtain ⟨v, s, e, g, h⟩ := enter_run (n := n) (rs := rs) hd hlen hrs ht hn hD hnw
  rcases h with ⟨h1, rfl, rfl⟩ | ⟨h1, rfl, nn, h2, rfl⟩
  · exact in_EEAE _ _ e g (.inl ⟨h1, rfl, rfl⟩)
  · exact in_EEAE _ _ e g (.inr ⟨h1, rfl, nn, h2, rfl⟩)
theorem strike_run {l : Lit} {rs : List Lit} {d : Dom} (hd : w.doms[l.x]? = some d) (hlen : d.length ≤ 500) (hrs : rs.length ≤ 1000) (ht : w.trail.length < 1000) (hn : w.nn < 1000) (hD : w.doms.length ≤ 1000) (hnw : w.nw = .ref 6) :
    ∃ b w', call (n + 5) (some (Str.ofString "Store"), ("strike" : Str)) [stv, lit l, .lst (rs.map lit)] w.g = some (.bool b, w'.g) ∧ Ent w l (some rs) d b w' := by
  refine el_EEA (enter_ent (n := n) (rs := some rs) hd hlen hrs ht hn hD hnw) fun b w' e h => ?_
  refine in_EEA b w' ?_ h
  have hl : (rs.map lit).length ≤ lim := by rw [List.length_map]; exact Nat.le_trans hrs (by decide)
  apply call_ends rfl rfl rfl rfl
  apply ends_ret
  · simp! [↓q6, ↓q17f, ↓q22f, ↓q25f, callN_tuple, eq_self, ↓qs1, ↓qs2, ↓bz, ob_s, pu, check_t, nr, qb1, qb2, ur, oj, List.map_cons, List.map_nil, ↓reduceIte, Bool.and_true, List.length_cons, List.length_nil, Nat.reduceAdd, Nat.reduceLT, decide_true, String.reduceEq, meth_st, at_speaker]
    exact e
  · exact ⟨rfl, rfl⟩
theorem decide_run {l : Lit} {d : Dom} (hd : w.doms[l.x]? = some d) (hlen : d.length ≤ 500) (ht : w.trail.length < 1000) (hn : w.nn < 1000) (hD : w.doms.length ≤ 1000) (hnw : w.nw = .ref 6) :
    ∃ b w', call (n + 5) (some (Str.ofString "Store"), ("decide" : Str)) [stv, lit l] w.g = some (.bool b, w'.g) ∧ Ent w l none d b w' := by
  refine el_EEA (enter_ent (n := n) (rs := none) hd hlen (by simp [rsOf]) ht hn hD hnw) fun b w' e h => ?_
  refine in_EEA b w' ?_ h
  apply call_ends rfl rfl rfl rfl
  apply ends_ret
  · simp! [↓q1, ↓q3, ↓q6, ↓q9, ↓q22f, eq_self, ↓qs1, ↓qs2, ↓bz, ob_s, pu, check_t, nr, qb1, qb2, ur, oj, List.map_cons, List.map_nil, ↓reduceIte, Bool.and_true, List.length_cons, List.length_nil, Nat.reduceAdd, Nat.reduceLT, decide_true, String.reduceEq, meth_st]
    exact e
  · exact ⟨rfl, rfl⟩
theorem low_run {x : Nat} {p : Int × Int} {d : Dom} (hd : w.doms[x]? = some (p :: d)) (hlen : d.length < 500) (hD : w.doms.length ≤ 1000) : call (n + 2) (some (Str.ofString "Store"), ("low" : Str)) [stv, .int x] w.g = some (.int p.1, w.g) := by
  have hD' : w.doms.length ≤ lim := Nat.le_trans hD (by decide)
  have hl : d.length < lim := Nat.lt_of_lt_of_le hlen (by decide)
  apply call_ends rfl rfl rfl rfl
  apply ends_ret
  · simp! [↓q6, ↓q17f, ↓q21f, ↓q25f, cfu, eq_self, ↓qs1, ↓qs2, ↓bz, ob_s, pu, nr, qb1, qb2, ur, oj, List.map_cons, List.map_nil, ↓reduceIte, String.reduceEq, at_domains, idx_doms hd hD', least_run hl]; rfl
  · exact ⟨rfl, rfl⟩
theorem high_run {x : Nat} {p : Int × Int} {d : Dom} (hd : w.doms[x]? = some (d ++ [p])) (hlen : d.length < 500) (hD : w.doms.length ≤ 1000) : call (n + 2) (some (Str.ofString "Store"), ("high" : Str)) [stv, .int x] w.g = some (.int p.2, w.g) := by
  have hD' : w.doms.length ≤ lim := Nat.le_trans hD (by decide)
  have hl : d.length < lim := Nat.lt_of_lt_of_le hlen (by decide)
  apply call_ends rfl rfl rfl rfl
  apply ends_ret
  · simp! [↓q6, ↓q17f, ↓q21f, ↓q25f, cfu, eq_self, ↓qs1, ↓qs2, ↓bz, ob_s, pu, nr, qb1, qb2, ur, oj, List.map_cons, List.map_nil, ↓reduceIte, String.reduceEq, at_domains, idx_doms hd hD', greatest_run hl]; rfl
  · exact ⟨rfl, rfl⟩
theorem has_m_run {x : Nat} {v : Int} {d : Dom} (hd : w.doms[x]? = some d) (hlen : d.length < 500) (hD : w.doms.length ≤ 1000) : call (n + 3) (some (Str.ofString "Store"), ("has" : Str)) [stv, .int x, .int v] w.g = some (.bool (decide (nextF d v = some v)), w.g) := by
  have hD' : w.doms.length ≤ lim := Nat.le_trans hD (by decide)
  have hl : d.length ≤ lim := Nat.le_of_lt (Nat.lt_of_lt_of_le hlen (by decide))
  apply call_ends rfl rfl rfl rfl
  apply ends_ret
  · simp! [↓q6, ↓q17f, ↓q21f, ↓q25f, cfu, eq_self, ↓qs1, ↓qs2, ↓bz, ob_s, pu, nr, qb1, qb2, ur, oj, List.map_cons, List.map_nil, ↓reduceIte, String.reduceEq, at_domains, idx_doms hd hD', has_run hl]; rfl
  · exact ⟨rfl, rfl⟩
noncomputable def fixF (d : Dom) : Bool := match d with
  | [p] => decide (p.1 = p.2)
  | _ => false
theorem fixed_run {x : Nat} {d : Dom} (hd : w.doms[x]? = some d) (hlen : d.length < 500) (hD : w.doms.length ≤ 1000) : call (n + 1) (some (Str.ofString "Store"), ("is_fixed" : Str)) [stv, .int x] w.g = some (.bool (fixF d), w.g) := by
  have hD' : w.doms.length ≤ lim := Nat.le_trans hD (by decide)
  have hl : d.length ≤ lim := Nat.le_of_lt (Nat.lt_of_lt_of_le hlen (by decide))
  cases d with
  | nil =>
    apply call_ends rfl rfl rfl rfl
    apply ends_asg
    · simp! [↓q6, ↓q17f, ↓q21f, eq_self, ↓bz, ob_s, nr, qb1, qb2, ur, oj, List.map_cons, List.map_nil, ↓reduceIte, String.reduceEq, at_domains, idx_doms hd hD']; rfl
    · rfl
    · rfl
    apply ends_ret
    · simp! [↓q3, ↓q6, ↓q7, ↓q16, ↓q21f, ↓q25f, eq_self, ↓qs1, ↓qs2, ↓qB2, ↓qC1, ↓bz, ob_s, pu, nr, qb1, qb2, ur, List.map_cons, List.map_nil, Bool.false_eq_true, qtr, qc1, ↓reduceIte, List.isEmpty_cons, List.isEmpty_nil, Bool.and_true, List.length_nil, eqV_int, len_dom]; rfl
    · exact ⟨rfl, rfl⟩
  | cons p r => cases r with
    | nil =>
      have h0 : ([] : Dom).length < lim := by decide
      have h1 : (((1 : Nat) : Int) = 1) := rfl
      apply call_ends rfl rfl rfl rfl
      apply ends_asg
      · simp! [↓q6, ↓q17f, ↓q21f, eq_self, ↓bz, ob_s, nr, qb1, qb2, ur, oj, List.map_cons, List.map_nil, ↓reduceIte, String.reduceEq, at_domains, idx_doms hd hD']; rfl
      · rfl
      · rfl
      apply ends_ret
      · simp! [↓q3, ↓q6, ↓q7, ↓q16, ↓q21f, ↓q25f, eq_self, ↓qs1, ↓qs2, ↓qB2, ↓qC1, ↓bz, ob_s, pu, nr, qb1, qb2, ur, List.map_cons, List.map_nil, Bool.false_eq_true, qtr, qc1, ↓reduceIte, List.isEmpty_cons, List.isEmpty_nil, Bool.and_true, List.length_cons, List.length_nil, Nat.zero_add, decide_true, eqV_int, idx_run0, idx_run1, len_dom, h1, decide_true, idx_dom0 h0, idx_run0, idx_run1]; rfl
      · exact ⟨rfl, rfl⟩
    | cons q r =>
      have h1 : ¬ ((((p :: q :: r).length : Nat) : Int) = 1) := by simp; exact fun q_ => lini [_] (.h 1 0 (.c 0) (.v 0) (.h 1 2 (.a (.a (.v 0) (.c 1)) (.c 1)) (.c 1) .f)) rfl (Int.natCast_nonneg _) q_
      simp only [List.length_cons] at h1
      apply call_ends rfl rfl rfl rfl
      apply ends_asg
      · simp! [↓q6, ↓q17f, ↓q21f, eq_self, ↓bz, ob_s, nr, qb1, qb2, ur, oj, List.map_cons, List.map_nil, ↓reduceIte, String.reduceEq, at_domains, idx_doms hd hD']; rfl
      · rfl
      · rfl
      apply ends_ret
      · simp! [↓q3, ↓q6, ↓q7, ↓q16, ↓q25f, eq_self, ↓qs1, ↓qs2, ↓qB2, ↓qC1, ↓bz, ob_s, pu, nr, qb1, qb2, ur, List.map_cons, List.map_nil, Bool.false_eq_true, qtr, qc1, ↓reduceIte, List.isEmpty_cons, List.isEmpty_nil, Bool.and_true, List.length_cons, decide_false, eqV_int, len_dom, h1, decide_false]; rfl
      · exact ⟨rfl, rfl⟩
theorem value_run {x : Nat} {p : Int × Int} {d : Dom} (hd : w.doms[x]? = some (p :: d)) (hlen : d.length < 500) (hD : w.doms.length ≤ 1000) : call (n + 1) (some (Str.ofString "Store"), ("value" : Str)) [stv, .int x] w.g = some (.int p.1, w.g) := by
  have hD' : w.doms.length ≤ lim := Nat.le_trans hD (by decide)
  have hl : d.length < lim := Nat.lt_of_lt_of_le hlen (by decide)
  apply call_ends rfl rfl rfl rfl
  apply ends_ret
  · simp! [↓q3, ↓q6, ↓q17f, ↓q21f, eq_self, ↓bz, ob_s, pu, nr, qb1, qb2, ur, oj, List.map_cons, List.map_nil, ↓reduceIte, String.reduceEq, idx_run0, at_domains, idx_doms hd hD', idx_dom0 hl, idx_run0]; rfl
  · exact ⟨rfl, rfl⟩
theorem dom_run {x : Nat} {d : Dom} (hd : w.doms[x]? = some d) (hD : w.doms.length ≤ 1000) : call (n + 1) (some (Str.ofString "Store"), ("dom" : Str)) [stv, .int x] w.g = some (dom d, w.g) := by
  have hD' : w.doms.length ≤ lim := Nat.le_trans hD (by decide)
  apply call_ends rfl rfl rfl rfl
  apply ends_ret
  · simp! [↓q6, ↓q17f, ↓q21f, eq_self, ↓bz, ob_s, nr, qb1, qb2, ur, oj, List.map_cons, List.map_nil, ↓reduceIte, String.reduceEq, at_domains, idx_doms hd hD']; rfl
  · exact ⟨rfl, rfl⟩
theorem len_ref {cf : CF} {sc : Scope} {σ : Sg} {l : Nat} {xs : List V} (hg : isGlob sc (Str.ofString "len") = true) (hr : σ[l]? = some (.list xs)) (h : xs.length ≤ lim) : callN prm cf sc (Str.ofString "len") [.ref l] σ = some (.int xs.length, σ) := callN_len_r hg hr h
theorem size_run (hD : w.doms.length ≤ 1000) : call (n + 1) (some (Str.ofString "Store"), ("size" : Str)) [stv] w.g = some (.int w.doms.length, w.g) := by
  have hD' : (w.doms.map dom).length ≤ lim := by rw [List.length_map]; exact Nat.le_trans hD (by decide)
  apply call_ends rfl rfl rfl rfl
  apply ends_ret
  · simp! [↓q6, ↓q17f, ↓q25f, eq_self, ↓qs1, ↓qs2, ↓bz, ob_s, pu, nr, qb1, qb2, ur, List.map_cons, List.map_nil, ↓reduceIte, at_domains]
    rw [len_ref rfl rfl hD']
  · exact ⟨by simp, rfl⟩
end
end
section
open PySem
set_option maxRecDepth 100000
set_option backward.defeqAttrib.useBackward true
noncomputable def undo (t : List En) (ds : List Dom) : List Dom := t.foldr (fun e ds => ds.set e.x e.old) ds
theorem undo_snoc {t : List En} {e : En} {ds : List Dom} : undo (t ++ [e]) ds = undo t (ds.set e.x e.old) := by simp [undo]
section
variable {w : Wd} {n : Nat}
theorem meth_marks : methV (.ref 5) (Str.ofString "append") w.g = some ((), w.g) := rfl
theorem app_marks {i : Int} (h : w.marks.length < lim) : callL (Str.ofString "append") (.ref 5) [.int i] w.g = some (.none, { w with marks := w.marks ++ [i] }.g) := by
  show (do check (decide ((w.marks.map V.int).length < lim)); setObj 5 (.list (w.marks.map .int ++ [.int i])); pure V.none : M V) w.g = _
  rw [bq, cq, if_pos (by simpa using h)]
  simp only [Wd.g, List.map_append]
  rfl
theorem push_run (hm : w.mkv = .ref 5) (hl : w.marks.length < 1000) (ht : w.trail.length < 1000) : call (n + 1) (some (Str.ofString "Store"), ("push" : Str)) [stv] w.g = some (.none, { w with marks := w.marks ++ [(w.trail.length : Int)] }.g) := by
  have h1 : (w.trail.map en).length ≤ lim := by rw [List.length_map]; exact Nat.le_trans (Nat.le_of_lt ht) (by decide)
  have h2 : w.marks.length < lim := Nat.lt_of_lt_of_le hl (by decide)
  apply call_ends rfl rfl rfl rfl
  apply ends_expr
  · simp! [↓q6, ↓q17f, ↓q22f, ↓q25f, eq_self, ↓qs1, ↓qs2, ↓bz, ob_s, pu, check_t, nr, qb1, qb2, ur, List.map_cons, List.map_nil, ↓reduceIte, Bool.and_true, List.length_cons, List.length_nil, Nat.reduceAdd, Nat.reduceLT, decide_true, at_marks, hm, meth_marks, at_trail]
    rw [len_ref rfl rfl h1]
    simp! [↓bz, ob_s, pu, List.length_map, app_marks h2]
    rfl
  · rfl
  apply ends_nil
  exact ⟨rfl, rfl⟩
theorem pop_trail {t : List En} {e : En} (h : w.trail = t ++ [e]) (hl : w.trail.length ≤ 1000) : callL (Str.ofString "pop") (.ref 4) [] w.g = some (en e, { w with trail := t }.g) := by
  have hl' : (w.trail.map en).length ≤ lim := by rw [List.length_map]; exact Nat.le_trans hl (by decide)
  show (do check (decide ((w.trail.map en).length ≤ lim)); let v ← need (w.trail.map en).getLast?; setObj 4 (.list (w.trail.map en).dropLast); pure v : M V) w.g = _
  rw [bq, cq, if_pos (decide_eq_true hl')]
  dsimp only
  rw [show (w.trail.map en).getLast? = some (en e) by rw [h]; simp, show (w.trail.map en).dropLast = t.map en by rw [h]; simp]
  rfl
theorem meth_pop : methV (.ref 4) (Str.ofString "pop") w.g = some ((), w.g) := rfl
theorem in_firsts : inV (.tup []) (.ref 3) w.g = some (w.firsts.any (fun d => decide (d = [])), w.g) := by
  show (do check (flat 5 (.tup []) && (w.firsts.map dom).all (flat 5)); pure ((w.firsts.map dom).any fun x => V.beq x (.tup [])) : M Bool) w.g = _
  rw [bq, cq, if_pos]
  · show some _ = _
    congr 2
    rw [List.any_map]
    congr 1
    funext d
    exact beq_dec dom (fun _ _ h => dom_inj h) d []
  · have : ∀ d : Dom, flat 5 (dom d) = true := fun d => flat_runs 3 d
    simp [this, show flat 5 (.tup []) = true from rfl]
theorem en_idx0 {e : En} {σ : Sg} : idxV (en e) (.int 0) σ = some (.int e.x, σ) := rfl
theorem en_idx1 {e : En} {σ : Sg} : idxV (en e) (.int 1) σ = some (dom e.old, σ) := rfl
theorem st_news2 {l : Nat} : setAttrV stv (Str.ofString "news") (.ref l) w.g = some ((), { w with nw := .ref l }.g) := rfl
theorem new_dict : newObj (MObj.dict 0) w.g = some (7 + w.rest.length, { w with rest := w.rest ++ [MObj.dict 0] }.g) := by
  rw [newObj_run]
  have : w.g.length = 7 + w.rest.length := by simp only [Wd.g, List.length_cons]; exact Nat.le_antisymm (lin [_] (.g 1 0 (.a (.a (.a (.a (.a (.a (.a (.v 0) (.c 1)) (.c 1)) (.c 1)) (.c 1)) (.c 1)) (.c 1)) (.c 1)) (.a (.c 7) (.v 0))) rfl) (lin [_] (.g 1 0 (.a (.c 7) (.v 0)) (.a (.a (.a (.a (.a (.a (.a (.v 0) (.c 1)) (.c 1)) (.c 1)) (.c 1)) (.c 1)) (.c 1)) (.c 1))) rfl)
  rw [this]
  rfl
theorem ev_slice_hi {P : Prm} {cf : CF} {sc : Scope} {ρ : Rho} {o h : Expr} {p pos : Pos} : ev P cf sc ρ (.Subscript o (.Slice none (some h) none p) pos) = (do let v ← ev P cf sc ρ o; let h ← ev P cf sc ρ h; sliceV v Option.none (some h)) := by
  rfl
theorem ev_slice_lo {P : Prm} {cf : CF} {sc : Scope} {ρ : Rho} {o h : Expr} {p pos : Pos} : ev P cf sc ρ (.Subscript o (.Slice (some h) none none p) pos) = (do let v ← ev P cf sc ρ o; let h ← ev P cf sc ρ h; sliceV v (some h) Option.none) := by
  rfl
theorem slice_marks {i : Int} (h : w.g[5]? = some (.list [.int i])) : sliceV (.ref 5) Option.none (some (.int ((1 : Nat) - 1 : Int))) w.g = some (.lst [], w.g) := by
  unfold sliceV
  simp only [seqOf, bq, getObj_run, h, pu, cq]
  rfl
theorem marks_at {i : Int} (h : w.marks = [i]) : w.g[5]? = some (.list [.int i]) := by
  show some (MObj.list (w.marks.map .int)) = _
  rw [h]; rfl
theorem pop_run {m : Int} (hm : w.mkv = .ref 5) (hm0 : w.marks = [0]) (ht : w.trail.length < 900) (hD : w.doms.length ≤ 1000) (hx : ∀ e ∈ w.trail, e.x < w.doms.length) (hm1 : m = 1) :
    ∃ nw rest, call (n + 1) (some (Str.ofString "Store"), ("pop" : Str)) [stv, .int m] w.g = some (.none, { w with mkv := .lst [], nw := nw, f := w.firsts.any (fun d => decide (d = [])), cl := .tup [], doms := undo w.trail w.doms, trail := [], rest := rest }.g) := by
  refine eq_l hm1 ?_
  have h1 : ∀ i : Int, ([.int i] : List V).length ≤ lim := fun i => (by decide : 1 ≤ lim)
  have h10 : ([V.int 0] : List V)[0]? = some (V.int 0) := rfl
  have e1 : ((([V.int 0] : List V).length : Nat) : Int) - 1 = ((0 : Nat) : Int) := rfl
  refine ⟨.ref (7 + w.rest.length), w.rest ++ [.dict 0], ?_⟩
  apply call_ends rfl rfl rfl rfl
  apply eif
  · simp! [↓q3, ↓q6, eq_self, ↓qC1, ↓qt5, ↓bz, ob_s, pu, nr, qb1, qb2, ur, List.map_cons, List.map_nil, qc3, ↓reduceIte, List.isEmpty_nil, Bool.and_true]; rfl
  apply ends_asg
  · simp! [↓q6, ↓q8, ↓q17f, ↓q21f, ↓q25f, eq_self, ↓qs1, ↓qs2, ↓bz, ob_s, pu, nr, qb1, qb2, ur, oj, List.map_cons, List.map_nil, ↓reduceIte, String.reduceEq, at_marks, hm]
    rw [len_ref rfl (marks_at hm0) (h1 0)]
    simp! [eq_self, ↓bz, ob_s, pu, nr, qb1, qb2, ur, List.map_cons, List.map_nil, binV_subi, ↓reduceIte, List.length_cons, List.length_nil, Nat.zero_add, show (((1 : Nat) : Int) - 1) = ((0 : Nat) : Int) from rfl, idx_ref (marks_at hm0) h10 (h1 0)]
    rfl
  · rfl
  · rfl
  apply ends_asg
  · simp! [↓q6, ↓q8, ↓q18, ↓q17f, ↓q25f, eq_self, ↓qs1, ↓qs2, ↓bz, ob_s, pu, nr, qb1, qb2, ur, oj, List.map_cons, List.map_nil, ↓reduceIte, String.reduceEq, at_marks, hm]
    rw [len_ref rfl (marks_at hm0) (h1 0)]
    simp! [eq_self, ↓bz, ob_s, pu, nr, qb1, qb2, ur, oj, List.map_cons, List.map_nil, binV_subi, ↓reduceIte, List.length_cons, List.length_nil, Nat.zero_add, String.reduceEq, slice_marks (marks_at hm0)]
    rfl
  · rfl
  · simp! [↓q6, eq_self, ↓qa5, ↓bz, ob_s, pu, nr, qb1, qb2, ur, oj, List.map_cons, List.map_nil, ↓reduceIte, String.reduceEq, st_marks]; rfl
  apply ends_while (fun m ρ σ' => ρ "self" = some stv ∧ ρ "mark" = some (.int 0) ∧ ∃ t ds, m = t.length ∧ σ' = { w with mkv := .lst [], doms := ds, trail := t }.g ∧ undo t ds = undo w.trail w.doms ∧ ds.length = w.doms.length ∧ (∀ e ∈ t, e.x < ds.length) ∧ t.length < 900) w.trail.length (by exact lin [_] (.h 1 1 (.v 0) (.c 900) (.g 1 1 (.v 0) (.c 1000))) rfl ht)
  · exact in_AAEEAA rfl rfl w.trail w.doms rfl rfl (in_AAA rfl rfl hx ht)
  · intro m ρ σ' hri_
    refine el_AAEEAA hri_ fun hs hk t ds hq4_ hq5_ hr1_ => ?_
    refine el_AAA hr1_ fun hu hdl htx htl => ?_
    refine eq_l hq4_ ?_
    refine eq_l hq5_ ?_
    have h2 : (t.map en).length ≤ lim := by rw [List.length_map]; exact Nat.le_trans (Nat.le_of_lt htl) (by decide)
    refine in_EAA (decide ((t.length : Int) > 0)) ?_ ?_ ?_
    · simp! [↓q6, ↓q17f, ↓q25f, ↓qs1, ↓qs2, ↓qC1, ↓qt5, ↓bz, ob_s, pu, nr, List.isEmpty_nil, hs, at_trail]
      rw [len_ref rfl (xs := t.map en) rfl h2]
      simp! [eq_self, ↓bz, ob_s, pu, nr, qc5, ↓reduceIte, Bool.and_true, hk, List.length_map]
    · intro hb
      have hpos : 0 < t.length := by simpa using hb
      obtain ⟨t', e, rfl⟩ : ∃ t' e, t = t' ++ [e] := ⟨t.dropLast, t.getLast (by intro h; simp [h] at hpos), (List.dropLast_concat_getLast _).symm⟩
      have hex : e.x < ds.length := htx e (by simp)
      have hdl' : ds.length ≤ lim := by rw [hdl]; exact Nat.le_trans hD (by decide)
      have hpt := pop_trail (w := { w with mkv := .lst [], doms := ds, trail := t' ++ [e] }) (t := t') (e := e) rfl (Nat.le_trans (Nat.le_of_lt htl) (by decide))
      refine ⟨t'.length, by simp, ?_⟩
      apply ends_asg
      · simp! [↓q6, ↓q17f, ↓q22f, eq_self, ↓qs1, ↓bz, ob_s, pu, check_t, nr, Bool.and_true, List.length_nil, Nat.reduceLT, decide_true, hs, at_trail, meth_pop]
        rw [hpt]
      · rfl
      · rfl
      apply ends_asg
      · simp! [↓q3, ↓q6, ↓q21f, eq_self, ↓bz, ob_s, pu, nr, ur, ↓reduceIte, en_idx1]; rfl
      · rfl
      · simp! [↓q3, ↓q6, ↓q17f, ↓q21f, eq_self, ↓qa6f, ↓bz, ob_s, pu, nr, ur, oj, ↓reduceIte, String.reduceEq, hs, at_domains, en_idx0]
        rw [set_doms (w := { w with mkv := .lst [], doms := ds, trail := t' }) hex hdl']
        rfl
      apply ends_nil
      refine in_AAEEAA (by exact hs) (by exact hk) t' (ds.set e.x e.old) rfl rfl (in_AAA ?_ ?_ ?_ ?_)
      · rw [← hu, undo_snoc]
      · rw [List.length_set]; exact hdl
      · intro e' he'; rw [List.length_set]; exact htx e' (by simp [he'])
      · simp at htl; exact lin [_] (.h 1 1 (.a (.v 0) (.c 1)) (.c 900) (.g 1 1 (.v 0) (.c 900))) rfl htl
    · intro hb
      replace hu : undo w.trail w.doms = undo t ds := hu.symm
      have : t = [] := by
        have : ¬ 0 < t.length := by simpa using hb
        exact List.eq_nil_of_length_eq_zero (by exact Nat.le_antisymm (lin [_] (.h 1 5 (.c 0) (.v 0) (.g 1 0 (.v 0) (.c 0))) rfl this) (lin [_] (.g 1 0 (.c 0) (.v 0)) rfl))
      subst this
      replace hu : undo w.trail w.doms = ds := hu
      apply ends_asg
      · simp! [↓q11, ↓bz]
        rw [new_dict]
        rfl
      · rfl
      · simp! [↓q6, ↓qa5, ↓bz, ob_s, pu, nr, hs, st_news]
        rfl
      apply ends_asg
      · simp! [↓q6, ↓q14, ↓q16, ↓q17f, lim_0, eq_self, ↓qs1, ↓qC1, ↓bz, ob_s, pu, check_t, nr, qc10, ↓reduceIte, List.isEmpty_nil, Bool.and_true, List.length_nil, hs, at_firsts, in_firsts]; rfl
      · rfl
      · simp! [↓q6, ↓qa5, ↓bz, ob_s, pu, nr, hs, st_failed]; rfl
      apply ends_asg
      · simp! [↓q14, lim_0, ↓qs1, ↓bz, ob_s, pu, check_t, List.length_nil]; rfl
      · rfl
      · simp! [↓q6, ↓qa5, ↓bz, ob_s, pu, nr, hs, st_clash]; rfl
      apply ends_nil
      refine ⟨rfl, ?_⟩
      rw [hu]
end
end
section
open PySem
set_option maxRecDepth 100000
set_option backward.defeqAttrib.useBackward true
section
variable {w : Wd} {n : Nat}
theorem meth_doms : methV (.ref 2) (Str.ofString "append") w.g = some ((), w.g) := rfl
theorem meth_fst : methV (.ref 3) (Str.ofString "append") w.g = some ((), w.g) := rfl
theorem app_doms {d : Dom} (h : w.doms.length < lim) : callL (Str.ofString "append") (.ref 2) [dom d] w.g = some (.none, { w with doms := w.doms ++ [d] }.g) := by
  show (do check (decide ((w.doms.map dom).length < lim)); setObj 2 (.list (w.doms.map dom ++ [dom d])); pure V.none : M V) w.g = _
  rw [bq, cq, if_pos (by simpa using h)]
  simp only [Wd.g, List.map_append]
  rfl
theorem app_fst {d : Dom} (h : w.firsts.length < lim) : callL (Str.ofString "append") (.ref 3) [dom d] w.g = some (.none, { w with firsts := w.firsts ++ [d] }.g) := by
  show (do check (decide ((w.firsts.map dom).length < lim)); setObj 3 (.list (w.firsts.map dom ++ [dom d])); pure V.none : M V) w.g = _
  rw [bq, cq, if_pos (by simpa using h)]
  simp only [Wd.g, List.map_append]
  rfl
theorem new_var_run {d : Dom} (hd : d ≠ []) (h1 : w.doms.length < 1000) (h2 : w.firsts.length < 1000) : ∃ v, call (n + 2) (some (Str.ofString "Store"), ("new_var" : Str)) [stv, dom d] w.g = some (v, { w with doms := w.doms ++ [d], firsts := w.firsts ++ [d] }.g) := by
  have h1' : w.doms.length < lim := Nat.lt_of_lt_of_le h1 (by decide)
  have h2' : w.firsts.length < lim := Nat.lt_of_lt_of_le h2 (by decide)
  have h3 : ((w.doms ++ [d]).map dom).length ≤ lim := by rw [List.length_map, List.length_append]; exact Nat.le_trans (Nat.succ_le_of_lt h1) (by decide)
  refine ⟨.int (((w.doms ++ [d]).map dom).length - 1), ?_⟩
  apply call_ends rfl rfl rfl rfl
  apply ends_expr
  · simp! [↓q6, ↓q17f, ↓q22f, eq_self, ↓qs1, ↓qs2, ↓bz, ob_s, pu, check_t, nr, qb1, qb2, ur, oj, List.map_cons, List.map_nil, ↓reduceIte, Bool.and_true, List.length_cons, List.length_nil, Nat.reduceAdd, Nat.reduceLT, decide_true, String.reduceEq, at_domains, meth_doms, app_doms h1']; rfl
  · rfl
  apply ends_expr
  · simp! [↓q6, ↓q17f, ↓q22f, eq_self, ↓qs1, ↓qs2, ↓bz, ob_s, pu, check_t, nr, qb1, qb2, ur, oj, List.map_cons, List.map_nil, ↓reduceIte, Bool.and_true, List.length_cons, List.length_nil, Nat.reduceAdd, Nat.reduceLT, decide_true, String.reduceEq, at_firsts, meth_fst]
    rw [app_fst (w := { w with doms := w.doms ++ [d] }) h2']
  · rfl
  apply eif
  · simp! [↓q6, ↓q14, lim_0, eq_self, ↓qs1, ↓qC1, ↓qt5, ↓bz, ob_s, pu, check_t, nr, qb1, qb2, ur, List.map_cons, List.map_nil, qc1, ↓reduceIte, List.isEmpty_nil, Bool.and_true, List.length_nil, decide_false, eqV_dom_nil, hd, decide_false]; rfl
  apply ends_ret
  · simp! [↓q3, ↓q6, ↓q8, ↓q17f, ↓q25f, eq_self, ↓qs1, ↓qs2, ↓bz, ob_s, pu, nr, qb1, qb2, ur, oj, List.map_cons, List.map_nil, ↓reduceIte, String.reduceEq, at_domains]
    rw [len_ref rfl (xs := (w.doms ++ [d]).map dom) rfl h3]
    simp! [↓bz, ob_s, pu, binV_subi]
    rfl
  · exact ⟨rfl, rfl⟩
noncomputable def w0 (jug : List Int) : Wd := { jug := jug, mkv := .ref 5, nw := .ref 6, f := false, cl := .tup [], doms := [], firsts := [], trail := [], marks := [], nn := 0, rest := [] }
theorem store_init {jug : List Int} : call (n + 1) (some (Str.ofString "Store"), ("__init__" : Str)) [stv] [MObj.list (jug.map .int), MObj.fields []] = some (.none, (w0 jug).g) := by
  apply call_ends rfl rfl rfl rfl
  iterate 8
    apply ends_asg
    · first | rfl | (simp! [↓qx1, ↓qx4, ↓qx5, ↓qx6, ↓qo1, ↓qo2, ↓q1, ↓q2, ↓q3, ↓q4, ↓q6, ↓q7, ↓q8, ↓q9, ↓q10, ↓q11, ↓q13, ↓q14, ↓q16, ↓q18, ↓q19, ↓q17f, ↓q22f, ↓q21f, ↓q25f, cfu, callN_int, callN_len, callN_list, callN_max, callN_min, callN_range1, callN_range2, callN_tuple, mkL_f, mkL_t, lim_0, lim_1, lim_2, lim_3, lim_4, lim_5, eq_self, Nat.reduceEqDiff, ↓qs1, ↓qs2, ↓qB2, ↓qC1, ↓qt1, ↓qt3, ↓qt5, ↓qt6, ↓qt7, ↓qt8, ↓qtB1, ↓qtB2, ↓qtA1, ↓qtA2, ↓qa1, ↓qa2, ↓qa3, ↓qa4, ↓qa5, ↓qa6f, qn1, qn2, ↓bz, ob_s, ob_n, pu, check_t, check_f, nr, qb1, qb2, ur, oj, ofS_beq, List.map_cons, List.map_nil, List.lookup_cons, List.lookup_nil, Bool.false_eq_true, if_false, if_true, qtr, qc1, qc2, qc3, qc4, qc5, qc6, qc7, qc8, qc9, qc10, qc11, binV_addi, binV_subi, binV_mod, binV_addt, reduceCtorEq, ↓reduceIte, List.isEmpty_cons, List.isEmpty_nil, Bool.and_true, Bool.true_and, Bool.and_false, Bool.false_and, Bool.not_true, Bool.not_false, beq_self_eq_true, List.all_cons, List.all_nil, List.length_cons, List.length_nil, Nat.zero_add, Nat.reduceAdd, Nat.reduceLT, Nat.reduceLeDiff, Nat.reduceBEq, decide_true, decide_false, String.reduceEq, String.reduceBEq, Option.some_beq_some, eqV_int, eqV_str, eqV_none_int, idx_run0, idx_run1]; rfl)
    · rfl
    · rfl
  apply ends_nil
  exact ⟨rfl, rfl⟩
noncomputable def JB (b : Int) (j : List Int) : Prop := ∃ c cells, j = c :: cells ∧ 0 ≤ c ∧ c ≤ b ∧ cells.length ≤ 50
theorem tap_run {many : Nat} {b : Int} {jug : List Int} {σ' : Sg} (hj : JB b jug) (hb : b ≤ 1000) (hm : 0 < many) : ∃ (t : Nat) (j : List Int), call (n + 1) (none, ("_law_tap" : Str)) [.ref 0, .int many] (.list (jug.map .int) :: σ') = some (.int t, .list (j.map .int) :: σ') ∧ t < many ∧ JB (b + 1) j := by
  refine el_EEAAA hj fun c cells hq2_ hc0 hc1 hcl => ?_
  refine eq_l hq2_ ?_
  have hmany : (0 : Int) < many := by exact lini [_] (.h 1 1 (.c 0) (.v 0) (.g 1 1 (.c 0) (.v 0))) rfl (Int.ofNat_lt.mpr hm)
  have h1 : ((c :: cells).map V.int).length ≤ lim := by simp; exact Nat.le_trans (Nat.succ_le_succ hcl) (by decide)
  have hi0 : idxV (.ref 0) (.int 0) (MObj.list ((c :: cells).map .int) :: σ' : Sg) = some (.int c, (MObj.list ((c :: cells).map .int) :: σ' : Sg)) := idx_ref (i := 0) rfl rfl h1
  have hset : setIdxV (.ref 0) (.int 0) (.int (c + 1)) (MObj.list ((c :: cells).map .int) :: σ' : Sg) = some ((), MObj.list (((c + 1) :: cells).map .int) :: σ') := by
    show (do check (decide ((0 : Int) ≤ 0) && decide ((0 : Int) < ((c :: cells).map V.int).length) && decide (((c :: cells).map V.int).length ≤ lim)); setObj 0 (.list (((c :: cells).map V.int).set ((0 : Int)).toNat (V.int (c + 1)))) : M Unit) _ = _
    rw [bq, cq, if_pos (by rw [decide_eq_true h1]; simp)]
    rfl
  have h1' : (((c + 1) :: cells).map V.int).length ≤ lim := by simpa using h1
  generalize hS : (MObj.list (((c + 1) :: cells).map .int) :: σ' : Sg) = S at *
  have hS0 : S[0]? = some (.list (((c + 1) :: cells).map .int)) := by rw [← hS]; rfl
  have hi0' : idxV (.ref 0) (.int 0) S = some (.int (c + 1), S) := idx_ref (i := 0) hS0 rfl h1'
  have hlen : ∀ cf sc, isGlob sc (Str.ofString "len") = true → callN prm cf sc (Str.ofString "len") [.ref 0] S = some (.int (cells.length + 1 : Nat), S) := fun cf sc hg => by
    rw [len_ref hg hS0 h1']; simp
  generalize (MObj.list ((c :: cells).map .int) :: σ' : Sg) = S1 at *
  suffices h : ∀ r : Int, (∃ e : Int, r = e % many) → CallQ (n + 1) (none, ("_law_tap" : Str)) [.ref 0, .int many] S1 (fun v s => v = .int r ∧ s = S) → _ by
    by_cases hc : c + 1 < (cells.length + 1 : Nat)
    · obtain ⟨e, he⟩ : ∃ e, cells[c.toNat]? = some e := ⟨_, List.getElem?_eq_getElem (by lia)⟩
      have hik : idxV (.ref 0) (.int (c + 1)) S = some (.int e, S) := by
        rw [show c + 1 = ((c.toNat + 1 : Nat) : Int) by lia]
        exact idx_ref hS0 (by simp [he]) h1'
      refine h (e % many) ⟨e, rfl⟩ ?_
      apply callQ rfl rfl rfl rfl
      apply ends_asg
      · simp! [↓q3, ↓q6, ↓q8, ↓q21f, eq_self, ↓bz, ob_s, pu, nr, qb1, qb2, ur, oj, List.map_cons, List.map_nil, binV_addi, ↓reduceIte, String.reduceEq, hi0]; rfl
      · rfl
      · simp! [↓q3, ↓q6, eq_self, ↓qa6f, ↓bz, ob_s, pu, nr, qb1, qb2, ur, oj, List.map_cons, List.map_nil, ↓reduceIte, String.reduceEq, hset]; rfl
      apply ends_if_t
      · simp! [↓q3, ↓q6, ↓q21f, ↓q25f, eq_self, ↓qs1, ↓qs2, ↓qC1, ↓qt5, ↓bz, ob_s, pu, nr, ur, oj, qc3, ↓reduceIte, List.isEmpty_nil, Bool.and_true, decide_true, String.reduceEq, hi0', hlen, hc]; rfl
      apply ends_ret
      · simp! [↓q3, ↓q6, ↓q8, ↓q21f, eq_self, ↓bz, ob_s, pu, nr, ur, oj, ↓reduceIte, String.reduceEq, hi0', hik, binV_mod hmany]; rfl
      · exact ⟨rfl, rfl⟩
    · refine h (((7 * (c + 1) * (c + 1) + 3 * (c + 1) + 5 + 4 * ((cells.length + 1 : Nat) - 1)) / 3) % many) ⟨_, rfl⟩ ?_
      have hs1 : (c + 1).natAbs < 2 ^ 64 := by lia
      have hs2 : (7 * (c + 1)).natAbs < 2 ^ 64 := by lia
      have hs3 : (7 * (c + 1) * (c + 1) + 3 * (c + 1) + 5 + 4 * (((cells.length + 1 : Nat) : Int) - 1)).natAbs < 2 ^ 64 := by
        have h5 : 0 ≤ (c + 1) * (c + 1) := Int.mul_nonneg (by exact lini [_] (.h 1 0 (.c 0) (.v 0) (.g 1 0 (.c 0) (.a (.v 0) (.c 1)))) rfl hc0) (by exact lini [_] (.h 1 0 (.c 0) (.v 0) (.g 1 0 (.c 0) (.a (.v 0) (.c 1)))) rfl hc0)
        have h6 : (c + 1) * (c + 1) ≤ 1001 * 1001 := Int.mul_le_mul (by exact lini [_,_] (.h 1 0 (.v 0) (.c 1000) (.h 1 0 (.v 1) (.v 0) (.g 1 0 (.a (.v 1) (.c 1)) (.c 1001)))) rfl hb hc1) (by exact lini [_,_] (.h 1 0 (.v 0) (.c 1000) (.h 1 0 (.v 1) (.v 0) (.g 1 0 (.a (.v 1) (.c 1)) (.c 1001)))) rfl hb hc1) (by exact lini [_] (.h 1 0 (.c 0) (.v 0) (.g 1 0 (.c 0) (.a (.v 0) (.c 1)))) rfl hc0) (by exact lini [] (.g 1 0 (.c 0) (.c 1001)) rfl)
        rw [Int.mul_assoc]
        lia
      have hs4 : (4 : Int).natAbs < 2 ^ 64 := by decide
      have hs5 : (7 : Int).natAbs < 2 ^ 64 := by decide
      have hs6 : (3 : Int).natAbs < 2 ^ 64 := by decide
      have hs7 : (0 : Int) < 3 := by decide
      apply callQ rfl rfl rfl rfl
      apply ends_asg
      · simp! [↓q3, ↓q6, ↓q8, ↓q21f, eq_self, ↓bz, ob_s, pu, nr, qb1, qb2, ur, oj, List.map_cons, List.map_nil, binV_addi, ↓reduceIte, String.reduceEq, hi0]; rfl
      · rfl
      · simp! [↓q3, ↓q6, eq_self, ↓qa6f, ↓bz, ob_s, pu, nr, qb1, qb2, ur, oj, List.map_cons, List.map_nil, ↓reduceIte, String.reduceEq, hset]; rfl
      apply eif
      · simp! [↓q3, ↓q6, ↓q21f, ↓q25f, eq_self, ↓qs1, ↓qs2, ↓qC1, ↓qt5, ↓bz, ob_s, pu, nr, ur, oj, qc3, ↓reduceIte, List.isEmpty_nil, Bool.and_true, decide_false, String.reduceEq, hi0', hlen, hc]; rfl
      apply ends_ret
      · simp! [↓q3, ↓q6, ↓q8, ↓q21f, ↓q25f, eq_self, ↓qs1, ↓qs2, ↓bz, ob_s, pu, nr, ur, oj, binV_addi, binV_subi, ↓reduceIte, String.reduceEq, hi0', hlen, binV_mul hs2, binV_mul hs4, binV_mul hs5, binV_mul hs6, binV_div hs7 hs3, binV_mod hmany]; rfl
      · exact ⟨rfl, rfl⟩
  rintro r ⟨e, rfl⟩ h
  have h0 : 0 ≤ e % many := Int.emod_nonneg _ (by exact fun q_ => lini [_] (.h 1 1 (.c 0) (.v 0) (.h 1 2 (.v 0) (.c 0) .f)) rfl hmany q_)
  have h2 : e % many < many := Int.emod_lt_of_pos _ hmany
  refine in_EEAAEE ((e % many).toNat) ((c + 1) :: cells) ?_ (by lia) (c + 1) cells (in_AAA rfl (by exact lini [_] (.h 1 0 (.c 0) (.v 0) (.g 1 0 (.c 0) (.a (.v 0) (.c 1)))) rfl hc0) (by exact lini [_,_] (.h 1 0 (.v 0) (.v 1) (.g 1 0 (.a (.v 0) (.c 1)) (.a (.v 1) (.c 1)))) rfl hc1) hcl)
  rw [callQ_iff h, ← hS, Int.toNat_of_nonneg h0]
end
end
section
open PySem
set_option maxRecDepth 100000
set_option backward.defeqAttrib.useBackward true
section
variable {P : Prm} {cf : CF} {sc : Scope} {ρ ρ' : Rho} {σ σ' σ1 : Sg}
theorem ev_comp_s {α : Type} {elt t iter : Expr} {scope : Scope} {pos : Pos} {x : V} (g : α → V) (xs : List α) (J : List α → List V → Sg → Prop) (I : Rho → Prop)
    (hok : (scopeOk scope && freesOk sc scope) = true)
    (hx : ev P cf sc ρ iter σ = some (x, σ1)) (hw : walkV x σ1 = some ((xs.map g, none), σ1)) (h0 : I (compRho scope ρ)) (hJ0 : J xs [] σ1) (hlen : xs.length ≤ lim)
    (hstep : ∀ a r acc ρ σ, J (a :: r) acc σ → I ρ → ∃ ρ' v σ', asgT scope t (g a) ρ σ = some (ρ', σ) ∧ I ρ' ∧ ev P cf scope ρ' elt σ = some (v, σ') ∧ J r (acc ++ [v]) σ') :
    ∃ acc σ', acc.length = xs.length ∧ J [] acc σ' ∧ ev P cf sc ρ (.ListComp elt [⟨t, iter, [], 0⟩] scope pos) σ = mkList (P.tr pos) acc σ' := by
  rw [q15]
  have h1 : (scopeOk scope && freesOk sc scope && ![(⟨t, iter, [], 0⟩ : Comprehension)].isEmpty && [(⟨t, iter, [], 0⟩ : Comprehension)].all fun g => g.is_async == 0) = true := by rw [hok]; rfl
  rw [h1, bq, cq, if_pos rfl]
  dsimp only
  rw [bq, qG2]
  simp only [beq_self_eq_true, if_true]
  rw [bq, cq, if_pos rfl]
  dsimp only
  rw [bq, hx]
  dsimp only
  rw [bq, hw]
  dsimp only
  obtain ⟨acc', ρ', σ', e, h, _, hl⟩ := comp_gen (chk := still (xs.map g) none) (step := fun v q => (do
      let ρ' ← asgT scope t v q.2
      let ok ← tstAll P cf scope ρ' []
      if ok then evG P cf sc ρ scope (fun p => do
        let v ← ev P cf scope p.2 elt
        check (decide (p.1.length < lim))
        pure (p.1 ++ [v], p.2)) [] false (q.1, ρ') else pure (q.1, ρ'))) g
    (fun r acc ρ' σ' => J r acc σ' ∧ I ρ' ∧ acc.length + r.length = xs.length)
    (fun a r acc ρ' σ' ⟨hJ, hI, hl⟩ => by
      refine el_EEEAAA (hstep a r acc ρ' σ' hJ hI) fun ρ2 v σ2 e1 hI2 e2 hJ2 => ?_
      simp only [List.length_cons] at hl
      refine in_EEEAAAA (acc ++ [v]) ρ2 σ2 ?_ rfl hJ2 hI2 (by simp; exact Nat.le_antisymm (lin [_,_,_] (.h 1 2 (.a (.v 0) (.a (.v 1) (.c 1))) (.v 2) (.g 1 0 (.a (.a (.v 0) (.c 1)) (.v 1)) (.v 2))) rfl hl) (lin [_,_,_] (.h 1 3 (.a (.v 0) (.a (.v 1) (.c 1))) (.v 2) (.g 1 0 (.v 2) (.a (.a (.v 0) (.c 1)) (.v 1)))) rfl hl))
      rw [bq, e1]
      dsimp only
      rw [bq, qtA1]
      dsimp only [pu]
      rw [if_pos rfl, qG1]
      dsimp only
      rw [bq, e2]
      dsimp only
      rw [bq, cq, if_pos (decide_eq_true (by exact lin [_,_,_] (.h 1 0 (.v 0) (.c 1000000) (.h 1 2 (.a (.v 1) (.a (.v 2) (.c 1))) (.v 0) (.g 1 1 (.v 1) (.c 1000000)))) rfl hlen hl))]
      rfl)
    xs [] (compRho scope ρ) σ1 ⟨hJ0, h0, by simp⟩
  exact in_EEAA acc' σ' (by simpa using hl) h (by rw [e])
theorem ends_ret_ex {e : Expr} {r : List Stmt} {Q : Fl → Rho → Sg → Prop} {pos : Pos} (h : ∃ v σ1, ev P cf sc ρ e σ = some (v, σ1) ∧ Q (.ret v) ρ σ1) : Ends (exs P cf sc ρ (.Return (some e) pos :: r) σ) Q := by
  refine el_EEA h fun v σ1 h1 h2 => ?_
  exact ends_ret h1 h2
theorem ev_comp2 {α β : Type} {elt t iter t2 iter2 : Expr} {scope : Scope} {pos : Pos} {x : V} (g : α → V) (xs : List α) (g2 : β → V) (ys : α → List β) (f : α → β → V) (I : Rho → Prop) (I2 : α → Rho → Prop)
    (hok : (scopeOk scope && freesOk sc scope) = true)
    (hx : ev P cf sc ρ iter σ = some (x, σ1)) (hw : walkV x σ1 = some ((xs.map g, none), σ1)) (h0 : I (compRho scope ρ)) (hlen : (xs.flatMap fun a => (ys a).map (f a)).length ≤ lim)
    (hstep : ∀ a ∈ xs, ∀ ρ, I ρ → ∃ ρ' x2, asgT scope t (g a) ρ σ1 = some (ρ', σ1) ∧ I2 a ρ' ∧ ev P cf scope ρ' iter2 σ1 = some (x2, σ1) ∧ walkV x2 σ1 = some (((ys a).map g2, none), σ1))
    (hstep2 : ∀ a ∈ xs, ∀ b ∈ ys a, ∀ ρ, I2 a ρ → ∃ ρ', asgT scope t2 (g2 b) ρ σ1 = some (ρ', σ1) ∧ I2 a ρ' ∧ ev P cf scope ρ' elt σ1 = some (f a b, σ1)) (hI : ∀ a ρ, I2 a ρ → I ρ) :
    ev P cf sc ρ (.ListComp elt [⟨t, iter, [], 0⟩, ⟨t2, iter2, [], 0⟩] scope pos) σ = mkList (P.tr pos) (xs.flatMap fun a => (ys a).map (f a)) σ1 := by
  rw [q15]
  have h1 : (scopeOk scope && freesOk sc scope && ![(⟨t, iter, [], 0⟩ : Comprehension), ⟨t2, iter2, [], 0⟩].isEmpty && [(⟨t, iter, [], 0⟩ : Comprehension), ⟨t2, iter2, [], 0⟩].all fun g => g.is_async == 0) = true := by rw [hok]; rfl
  rw [h1, bq, cq, if_pos rfl]
  dsimp only
  rw [bq, qG2]
  simp only [beq_self_eq_true, if_true]
  rw [bq, cq, if_pos rfl]
  dsimp only
  rw [bq, hx]
  dsimp only
  rw [bq, hw]
  dsimp only
  obtain ⟨acc', ρ', σ', e, h⟩ := comp_gen (chk := still (xs.map g) none) (step := fun v q => (do
      let ρ' ← asgT scope t v q.2
      let ok ← tstAll P cf scope ρ' []
      if ok then evG P cf sc ρ scope (fun p => do
        let v ← ev P cf scope p.2 elt
        check (decide (p.1.length < lim))
        pure (p.1 ++ [v], p.2)) [⟨t2, iter2, [], 0⟩] false (q.1, ρ') else pure (q.1, ρ'))) g
    (fun r acc ρ' σ' => σ' = σ1 ∧ I ρ' ∧ (∀ a ∈ r, a ∈ xs) ∧ acc ++ (r.flatMap fun a => (ys a).map (f a)) = (xs.flatMap fun a => (ys a).map (f a)))
    (fun a r acc ρ' σ' ⟨hσ, hI0, hm, he⟩ => by
      subst hσ
      have ha := hm a (by simp)
      obtain ⟨ρ2, x2, e1, hI2, e2, e3⟩ := hstep a ha ρ' hI0
      rw [List.flatMap_cons, ← List.append_assoc] at he
      obtain ⟨acc2, ρ3, σ3, e4, rfl, hI3, h4⟩ := comp_gen (chk := still ((ys a).map g2) none) (step := fun v q => (do
          let ρ' ← asgT scope t2 v q.2
          let ok ← tstAll P cf scope ρ' []
          if ok then evG P cf sc ρ scope (fun p => do
            let v ← ev P cf scope p.2 elt
            check (decide (p.1.length < lim))
            pure (p.1 ++ [v], p.2)) [] false (q.1, ρ') else pure (q.1, ρ'))) g2
        (fun r2 acc3 ρ' σ3 => σ3 = σ' ∧ I2 a ρ' ∧ (∀ b ∈ r2, b ∈ ys a) ∧ acc3 ++ r2.map (f a) = acc ++ (ys a).map (f a))
        (fun b r2 acc3 ρ4 σ4 ⟨hσ, hI4, hm2, he2⟩ => by
          subst hσ
          obtain ⟨ρ5, f1, hI5, f2⟩ := hstep2 a ha b (hm2 b (by simp)) ρ4 hI4
          have hle : acc3.length < lim := by
            have h5 := congrArg List.length he
            have h6 := congrArg List.length he2
            simp only [List.length_append, List.length_map, List.length_cons] at h5 h6
            exact lin [_,_,_,_,_,_] (.h 1 0 (.v 0) (.c 1000000) (.h 1 2 (.a (.a (.v 1) (.v 2)) (.v 3)) (.v 0) (.h 1 2 (.a (.v 4) (.a (.v 5) (.c 1))) (.a (.v 1) (.v 2)) (.g 1 1 (.v 4) (.c 1000000))))) rfl hlen h5 h6
          refine in_EEEAAA (acc3 ++ [f a b]) ρ5 σ4 ?_ rfl rfl (in_AA hI5 (fun b hb => hm2 b (by simp [hb])) (by rw [← he2]; simp))
          rw [bq, f1]
          dsimp only
          rw [bq, qtA1]
          dsimp only [pu]
          rw [if_pos rfl, qG1]
          dsimp only
          rw [bq, f2]
          dsimp only
          rw [bq, cq, if_pos (decide_eq_true hle)]
          rfl)
        (ys a) acc ρ2 σ' ⟨rfl, hI2, fun b h => h, rfl⟩
      rw [List.map_nil, List.append_nil] at h4
      obtain ⟨-, h4⟩ := h4
      refine in_EEEAAA acc2 ρ3 σ3 ?_ rfl rfl (in_AA (hI _ _ hI3) (fun b hb => hm b (by simp [hb])) ?_)
      · rw [bq, e1]
        dsimp only
        rw [bq, qtA1]
        dsimp only [pu]
        rw [if_pos rfl, qG2]
        simp only [beq_self_eq_true]
        rw [bq, cq, if_pos rfl]
        dsimp only
        simp only [Bool.false_eq_true, if_false]
        rw [bq, e2]
        dsimp only
        rw [bq, e3]
        dsimp only
        exact e4
      · rw [h4]; exact he)
    xs [] (compRho scope ρ) σ1 ⟨rfl, h0, fun a h => h, rfl⟩
  rw [e]
  dsimp only
  refine el_AAA h fun hq0_ _ _ he => ?_
  refine eq_l hq0_ ?_
  rw [show acc' = (xs.flatMap fun a => (ys a).map (f a)) by simpa using he]
end
end
section
open PySem
set_option maxRecDepth 100000
set_option backward.defeqAttrib.useBackward true
noncomputable def fits (s : Sn) (k v : Int) : Bool := match s with
  | .le => decide (v ≤ k)
  | .ge => decide (v ≥ k)
  | .eq => decide (v = k)
  | .ne => !decide (v = k)
theorem fits_run {n : Nat} {l : Lit} {v : Int} {σ : Sg} : call (n + 1) (none, ("_law_fits" : Str)) [lit l, .int v] σ = some (.bool (fits l.s l.k v), σ) := by
  obtain ⟨x, s, k⟩ := l
  apply call_ends rfl rfl rfl rfl
  apply ends_asg rfl rfl rfl
  cases s
  · apply eif rfl
    apply eif rfl
    apply ends_ret rfl
    exact ⟨rfl, rfl⟩
  · apply eif rfl
    apply eif rfl
    apply ends_ret rfl
    exact ⟨rfl, rfl⟩
  · apply ends_if_t rfl
    apply ends_ret
    · simp! [↓q6, ↓q16, eq_self, ↓qC1, ↓bz, ob_s, pu, nr, qb1, qb2, ur, oj, List.map_cons, List.map_nil, qc1, ↓reduceIte, List.isEmpty_nil, Bool.and_true, String.reduceEq, eqV_int]; rfl
    exact ⟨rfl, rfl⟩
  · apply eif rfl
    apply ends_if_t rfl
    apply ends_ret
    · simp! [↓q6, ↓q16, eq_self, ↓qC1, ↓bz, ob_s, pu, nr, qb1, qb2, ur, oj, List.map_cons, List.map_nil, qc2, ↓reduceIte, List.isEmpty_nil, Bool.and_true, String.reduceEq, eqV_int]; rfl
    exact ⟨rfl, rfl⟩
noncomputable def negF (l : Lit) : Lit := negL l
theorem other_run {n : Nat} {l : Lit} {σ : Sg} : call (n + 1) (none, ("_law_other" : Str)) [lit l] σ = some (lit (negL l), σ) := by
  obtain ⟨x, s, k⟩ := l
  apply call_ends rfl rfl rfl rfl
  apply ends_asg rfl rfl rfl
  cases s
  · apply eif rfl
    apply ends_ret rfl
    exact ⟨rfl, rfl⟩
  · apply eif rfl
    apply ends_ret rfl
    exact ⟨rfl, rfl⟩
  · apply ends_if_t rfl
    apply ends_ret rfl
    exact ⟨rfl, rfl⟩
  · apply ends_if_t rfl
    apply ends_ret rfl
    exact ⟨rfl, rfl⟩
theorem mkL_f0 {b : Bool} {σ : Sg} (hb : b = false) : mkList b [] σ = some (.lst [], σ) := mkL_f hb (by decide : 0 ≤ lim)
theorem mkL_f1 {b : Bool} {x : V} {σ : Sg} (hb : b = false) : mkList b [x] σ = some (.lst [x], σ) := mkL_f hb (by decide : 1 ≤ lim)
theorem ite_tf {b : Bool} {σ : Sg} : (if b = true then (pure true : M Bool) else pure false) σ = some (b, σ) := by cases b <;> rfl
noncomputable def okL (lits : List Lit) (x : Int) (v : Int) : Bool := decide (((lits.filter fun l => decide ((l.x : Int) = x) && !fits l.s l.k v).map fun _ => (1 : Int)) = [])
noncomputable def fit (xs : List Int) (lits : List Lit) (x : Int) : List Int := xs.filter (okL lits x)
theorem ones_zs {α : Type} (xs : List α) : V.lst (xs.map fun _ => V.int 1) = zs (xs.map fun _ => (1 : Int)) := by simp [zs]
theorem fit_run {n : Nat} {nv : V} {xs : List Int} {lits : List Lit} {x : Int} {σ : Sg} (hw : walkV nv σ = some ((xs.map .int, none), σ)) (hl : xs.length ≤ lim) (hl2 : lits.length ≤ lim) :
    call (n + 2) (none, ("_law_fit" : Str)) [nv, .lst (lits.map lit), .int x] σ = some (zs (fit xs lits x), σ) := by
  have hl3 : (lits.map lit).length ≤ lim := by simpa using hl2
  apply call_ends rfl rfl rfl rfl
  apply ends_ret
  · rw [ev_comp1 V.int xs (okL lits x) V.int (fun ρ => ρ "literals" = some (.lst (lits.map lit)) ∧ ρ "x" = some (.int x)) rfl rfl hw rfl ⟨rfl, rfl⟩ hl]
    · simp! [mkL_f]; rfl
    · intro v hv ρ hri_
      obtain ⟨h1, h2⟩ := hri_
      refine ⟨_, rfl, ⟨by simp! [eq_self, ur, oj, ↓reduceIte, String.reduceEq, h1], by simp! [eq_self, ur, oj, ↓reduceIte, String.reduceEq, h2]⟩, ?_, fun _ => by simp! [↓q6, eq_self, nr, ur, ↓reduceIte]⟩
      simp! [↓q13, ↓qs1, ↓qC1, ↓qt5, ↓qtA1, ↓qtA2, ↓bz, qc1, List.isEmpty_nil]
      rw [ev_comp1 lit lits (fun l => decide ((l.x : Int) = x) && !fits l.s l.k v) (fun _ => .int 1) (fun ρ => ρ "x" = some (.int x) ∧ ρ "v" = some (.int v)) rfl (by simp! [↓q6, nr, ur, oj, ↓reduceIte, String.reduceEq, h1]; rfl) (x := .lst (lits.map lit)) (l := none) (walk_lst hl3) rfl ⟨by exact h2, rfl⟩ hl2]
      · simp! [mkL_f, eq_self, ↓bz, ob_s, pu, ↓reduceIte, Bool.and_true, ones_zs, mkL_f0, eqV_zs_nil, ite_tf]
        rfl
      · intro l hl ρ hri_
        obtain ⟨h3, h4⟩ := hri_
        refine ⟨_, rfl, ⟨by simp! [eq_self, ur, oj, ↓reduceIte, String.reduceEq, h3], by simp! [eq_self, ur, oj, ↓reduceIte, String.reduceEq, h4]⟩, ?_, fun _ => by simp! [↓q3, eq_self, pu]⟩
        by_cases hc : (l.x : Int) = x
        · simp! [↓q3, ↓q6, ↓q21f, ↓q25f, cfu, eq_self, ↓qs1, ↓qs2, ↓qC1, ↓qt1, ↓qt3, ↓qt5, ↓qt7, ↓qtB1, ↓qtB2, ↓qtA1, ↓qtA2, ↓bz, ob_s, pu, nr, ur, oj, qtr, qc1, ↓reduceIte, List.isEmpty_nil, Bool.and_true, Bool.true_and, beq_self_eq_true, decide_true, String.reduceEq, eqV_int, h3, h4, lit_idx0, hc, fits_run, decide_true]
          cases fits l.s l.k v <;> rfl
        · simp! [↓q3, ↓q6, ↓q21f, eq_self, ↓qC1, ↓qt1, ↓qt3, ↓qt5, ↓qt7, ↓qtB1, ↓qtB2, ↓qtA1, ↓qtA2, ↓bz, ob_s, pu, nr, ur, oj, Bool.false_eq_true, qc1, ↓reduceIte, List.isEmpty_nil, Bool.and_true, Bool.false_and, decide_false, String.reduceEq, eqV_int, h3, lit_idx0, hc, decide_false]
  · exact ⟨rfl, rfl⟩
end
section
open PySem
set_option maxRecDepth 100000
set_option backward.defeqAttrib.useBackward true
noncomputable def rg (lo hi : Int) : List Int := (List.range (hi - lo).toNat).map fun (k : Nat) => lo + k
theorem rg_len (lo hi : Int) : (rg lo hi).length = (hi - lo).toNat := by simp [rg]
theorem mem_rg {lo hi v : Int} : v ∈ rg lo hi ↔ lo ≤ v ∧ v < hi := by
  simp only [rg, List.mem_map, List.mem_range]
  constructor
  · rintro ⟨k, hk, rfl⟩; exact ⟨Int.le_add_of_nonneg_right (Int.natCast_nonneg k), Int.add_lt_of_lt_sub_left (Int.lt_toNat.mp hk)⟩
  · intro h; exact ⟨(v - lo).toNat, (Int.toNat_lt_toNat (Int.sub_pos_of_lt (Int.lt_of_le_of_lt h.1 h.2))).mpr (Int.sub_lt_sub_right h.2 lo), (congrArg (lo + ·) (Int.toNat_of_nonneg (Int.sub_nonneg_of_le h.1))).trans (by rw [Int.add_comm, Int.sub_add_cancel])⟩
theorem walk_rng {lo hi : Int} {σ : Sg} (h1 : -1000 ≤ lo ∧ lo ≤ 100000) (h2 : -1000 ≤ hi ∧ hi ≤ 100000) : walkV (.rng lo hi) σ = some (((rg lo hi).map .int, none), σ) := by
  refine (walk_rg0 h1 h2).trans ?_
  simp only [rg, List.map_map]
  rfl
theorem intsOf_zs (xs : List Int) : intsOf (xs.map V.int) = some xs := by
  induction xs with
  | nil => rfl
  | cons x r ih => exact (congrArg (Option.map (x :: ·)) ih).trans rfl
theorem sorted_run {xs : List Int} {σ : Sg} (h : xs.length < 64) : sortedSetV (zs xs) σ = some (zs (sortedSet xs), σ) := by
  show (check (decide ((xs.map V.int).length < 64)) >>= fun _ => need (intsOf (xs.map V.int)) >>= fun ns => pure (.lst ((sortedSet ns).map .int)) : M V) σ = _
  rw [bq, cq, List.length_map, if_pos (decide_eq_true h), intsOf_zs]
  rfl
theorem count_run {xs : List Int} {i : Int} {σ : Sg} : callL (Str.ofString "count") (.lst (xs.map V.int)) [.int i] σ = some (.int (xs.count i : Nat), σ) := by
  show (need (intsOf (xs.map V.int)) >>= fun ns => pure (V.int (ns.count i : Nat)) : M V) σ = _
  rw [intsOf_zs]
  rfl
theorem meth_count {xs : List V} {σ : Sg} : methV (.lst xs) (Str.ofString "count") σ = some ((), σ) := by
  rfl
theorem rep_run {a : V} {b t : Bool} {σ : Sg} (ht : t = false) : binV t .Mult (.lst [a]) (.int (if b = true then 1 else 0)) σ = some (.lst (if b then [a] else []), σ) := by
  refine eq_l ht ?_
  cases b <;> rfl
theorem ev_sorted {P : Prm} {cf : CF} {sc : Scope} {ρ : Rho} {a : Expr} {p1 p2 p3 p4 : Pos} {σ : Sg} (h1 : isGlob sc (Str.ofString "sorted") = true) (h2 : isGlob sc (Str.ofString "set") = true) :
    ev P cf sc ρ (.Call (.Name (Str.ofString "sorted") p1) [.Call (.Name (Str.ofString "set") p2) [a] [] p3] [] p4) σ = (do let x ← ev P cf sc ρ a; sortedSetV x) σ := by
  refine (congrFun (q24 (by simp [ofS_beq]) ?_) σ).trans ?_
  · show (Str.ofString "sorted" == Str.ofString "sorted" && (Str.ofString "set" == Str.ofString "set" && [a].length == 1 && isGlob sc (Str.ofString "set"))) = true
    rw [h2]; simp
  rw [bq, cq, if_pos h1]
theorem ev_tzip {P : Prm} {cf : CF} {sc : Scope} {ρ : Rho} {a b : Expr} {p1 p2 p3 p4 : Pos} {σ : Sg} (h1 : isGlob sc (Str.ofString "tuple") = true) (h2 : isGlob sc (Str.ofString "zip") = true) :
    ev P cf sc ρ (.Call (.Name (Str.ofString "tuple") p1) [.Call (.Name (Str.ofString "zip") p2) [a, b] [] p3] [] p4) σ = (do let x ← ev P cf sc ρ a; let y ← ev P cf sc ρ b; zipV x y) σ := by
  refine (congrFun (q23 ?_) σ).trans ?_
  · show (Str.ofString "tuple" == Str.ofString "tuple" && (Str.ofString "zip" == Str.ofString "zip" && [a, b].length == 2 && isGlob sc (Str.ofString "zip"))) = true
    rw [h2]; simp
  rw [bq, cq, if_pos h1]
theorem zip_run {xs ys : List Int} {σ : Sg} (h : xs.length = ys.length) (hl : xs.length ≤ lim) : zipV (zs xs) (zs ys) σ = some (dom (xs.zip ys), σ) := by
  show (check (decide ((xs.map V.int).length ≤ lim) && (xs.map V.int).length == (ys.map V.int).length) >>= fun _ => pure (.tup (((xs.map V.int).zip (ys.map V.int)).map fun p => .tup [p.1, p.2])) : M V) σ = _
  rw [bq, cq, if_pos (by simp [h, h ▸ hl]), List.zip_map]
  show some (V.tup _, σ) = some (V.tup _, σ)
  rw [List.map_map]
  rfl
theorem len_sortedSet {xs : List Int} : (sortedSet xs).length ≤ xs.length := by
  induction xs with
  | nil => simp [sortedSet]
  | cons z r ih =>
    show (insertZ z (sortedSet r)).length ≤ _
    have := len_insertZ (x := z) (xs := sortedSet r)
    simp; exact lin [_,_,_] (.h 1 0 (.v 0) (.v 1) (.h 1 0 (.v 2) (.a (.v 0) (.c 1)) (.g 1 0 (.v 2) (.a (.v 1) (.c 1))))) rfl ih this
theorem lst_zs {xs : List Int} : V.lst (xs.map V.int) = zs xs := rfl
noncomputable def moreOf (lits : List Lit) (taken : List Int) (value x : Int) : List Int :=
  (if decide (value ∈ fit (rg (-1) 4) lits x) then [(taken.count x : Int)] else []) ++ (if !decide ((fit (rg (-1) 4) lits x).filter (fun v => !decide (v = value)) = []) then [0] else [])
noncomputable def stepS (lits : List Lit) (taken : List Int) (value : Int) (sums : List Int) (x : Int) : List Int := sortedSet (sums.flatMap fun one => (moreOf lits taken value x).map fun late => one + late)
noncomputable def isWay (lits : List Lit) (taken : List Int) (value n : Int) : Bool := !decide ((((sortedSet taken).foldl (stepS lits taken value) [0]).filter fun one => decide (one ∈ fit (rg (-2) 9) lits n)) = [])
theorem fit_len {xs : List Int} {lits : List Lit} {x : Int} : (fit xs lits x).length ≤ xs.length := List.length_filter_le _ _
theorem moreOf_len {lits : List Lit} {taken : List Int} {value x : Int} : (moreOf lits taken value x).length ≤ 2 := by
  unfold moreOf
  rw [List.length_append]
  have : ∀ (b : Bool) (a : Int), (if b then [a] else []).length ≤ 1 := fun b a => by cases b <;> simp
  exact Nat.add_le_add (this _ _) (this _ _)
theorem len_sums {lits : List Lit} {taken : List Int} {value x : Int} {s : List Int} : (s.flatMap fun one => (moreOf lits taken value x).map fun late => one + late).length ≤ s.length * 2 := by
  induction s with
  | nil => simp
  | cons a r ih =>
    have := moreOf_len (lits := lits) (taken := taken) (value := value) (x := x)
    simp only [List.flatMap_cons, List.length_append, List.length_map, List.length_cons]
    exact lin [_,_,_] (.h 1 0 (.v 0) (.r (.v 1) 2) (.h 1 0 (.v 2) (.c 2) (.g 1 0 (.a (.v 2) (.v 0)) (.r (.a (.v 1) (.c 1)) 2)))) rfl ih this
theorem ifl_zs {b : Bool} {a : Int} : (if b = true then [V.int a] else []) = ((if b = true then [a] else []) : List Int).map .int := by cases b <;> rfl
theorem way_run {n : Nat} {lits : List Lit} {taken : List Int} {value m : Int} {σ : Sg} (hl2 : lits.length ≤ lim) (ht : taken.length ≤ 5) :
    call (n + 3) (none, ("_law_is_way" : Str)) [.lst (lits.map lit), zs taken, .int value, .int m] σ = some (.bool (isWay lits taken value m), σ) := by
  have ht' : taken.length < 64 := by exact lin [_] (.h 1 0 (.v 0) (.c 5) (.g 1 1 (.v 0) (.c 64))) rfl ht
  have hr1 : ((rg (-1) 4).length ≤ lim) := by rw [rg_len]; decide
  have hr2 : ((rg (-2) 9).length ≤ lim) := by rw [rg_len]; decide
  have hss := len_sortedSet (xs := taken)
  apply call_ends rfl rfl rfl rfl
  apply ends_asg
  · simp! [↓q3, ↓q13, ↓qs1, ↓qs2, ↓bz, ob_s, pu, mkL_f1]; rfl
  · rfl
  · rfl
  apply ends_for V.int (sortedSet taken) (fun r ρ σ' => σ' = σ ∧ ρ "literals" = some (.lst (lits.map lit)) ∧ ρ "taken" = some (zs taken) ∧ ρ "value" = some (.int value) ∧ ρ "n" = some (.int m) ∧ ∃ s, ρ "sums" = some (zs s) ∧ s.length * 2 ^ r.length ≤ 32 ∧ r.foldl (stepS lits taken value) s = (sortedSet taken).foldl (stepS lits taken value) [0])
  · simp! [↓q6, eq_self, ↓bz, ob_s, nr, qb1, qb2, ur, oj, List.map_cons, List.map_nil, ↓reduceIte, String.reduceEq, ev_sorted, sorted_run ht']; rfl
  · exact walk_zs (Nat.le_trans (by exact lin [_,_] (.h 1 0 (.v 0) (.c 5) (.h 1 0 (.v 1) (.v 0) (.g 1 0 (.v 1) (.c 5)))) rfl ht hss : _ ≤ 5) (by decide))
  · refine in_AAAAAE rfl rfl rfl rfl rfl ([0]) (in_AA rfl ?_ rfl)
    have : 2 ^ (sortedSet taken).length ≤ 2 ^ 5 := Nat.pow_le_pow_right (by exact lin [] (.g 1 1 (.c 0) (.c 2)) rfl) (by exact lin [_,_] (.h 1 0 (.v 0) (.c 5) (.h 1 0 (.v 1) (.v 0) (.g 1 0 (.v 1) (.c 5)))) rfl ht hss)
    simpa using this
  · intro x r ρ σ' hri_
    refine el_AAAAAE hri_ fun hq0_ h1 h2 h3 h4 s hr1_ => ?_
    refine el_AA hr1_ fun h5 h6 h7 => ?_
    refine eq_r hq0_ ?_
    have hs : s.length * 2 ≤ 32 := by
      have : 1 ≤ 2 ^ r.length := Nat.one_le_two_pow
      simp only [List.length_cons, Nat.pow_succ] at h6
      have := Nat.mul_le_mul_left (s.length * 2) this
      rw [Nat.mul_one, Nat.mul_assoc, Nat.mul_comm 2] at this
      exact lin [_,_] (.h 1 0 (.v 0) (.c 32) (.h 1 0 (.r (.v 1) 2) (.v 0) (.g 1 0 (.r (.v 1) 2) (.c 32)))) rfl h6 this
    refine in_EEA _ σ' rfl ?_
    apply ends_asg
    · simp! [↓q3, ↓q6, ↓q9, ↓q25f, cfu, callN_range2, eq_self, ↓qs1, ↓qs2, ↓bz, ob_s, pu, nr, ur, oj, ↓reduceIte, String.reduceEq, h1, fit_run (walk_rng (lo := -1) (hi := 4) (by exact ⟨lini [] (.g 1 0 (.u (.c 1000)) (.u (.c 1))) rfl, lini [] (.g 1 0 (.u (.c 1)) (.c 100000)) rfl⟩) (by exact ⟨lini [] (.g 1 0 (.u (.c 1000)) (.c 4)) rfl, lini [] (.g 1 0 (.c 4) (.c 100000)) rfl⟩)) hr1 hl2]; rfl
    · rfl
    · rfl
    have hfl : (fit (rg (-1) 4) lits x).length ≤ lim := Nat.le_trans fit_len hr1
    apply ends_asg (v := zs (moreOf lits taken value x)) (σ1 := σ')
    · have h2' : ρ "taken" = some (.lst (taken.map .int)) := h2
      simp! [↓q3, ↓q6, ↓q8, ↓q13, ↓q16, ↓q22f, ↓q25f, eq_self, ↓qs1, ↓qs2, ↓qC1, ↓bz, ob_s, pu, check_t, nr, ur, oj, qc2, qc10, ↓reduceIte, List.isEmpty_nil, Bool.and_true, List.length_cons, List.length_nil, Nat.reduceAdd, Nat.reduceLT, decide_true, String.reduceEq, h2', h3, meth_count, count_run, mkL_f1, inV_zs, callN_int_b, rep_run]
      rw [ev_comp1 V.int (fit (rg (-1) 4) lits x) (fun v => !decide (v = value)) V.int (fun ρ => ρ "value" = some (.int value)) rfl (by simp! [↓q6, eq_self, nr, ur, ↓reduceIte]; rfl) (walk_zs hfl) rfl (by exact h3) hfl]
      · simp! [mkL_f, eq_self, ↓bz, ob_s, pu, ↓reduceIte, Bool.and_true, mkL_f0, lst_zs, eqV_zs_nil, callN_int_b, rep_run]
        rw [ifl_zs, ifl_zs]
        refine (binV_addl (by rfl) ?_).trans ?_
        · rw [List.length_map, List.length_map, ← List.length_append]
          exact Nat.le_trans (moreOf_len (lits := lits) (taken := taken) (value := value) (x := x)) (by decide)
        · rw [← List.map_append]
          rfl
      · rintro v _ ρ h8
        exact in_EAAA _ rfl h8 (by simp! [↓q6, eq_self, ↓qC1, ↓qt5, ↓qtA1, ↓qtA2, ↓bz, ob_s, pu, nr, ur, oj, qc2, ↓reduceIte, List.isEmpty_nil, Bool.and_true, String.reduceEq, eqV_int, h8, ite_tf]) (fun _ => by simp! [↓q6, eq_self, nr, ur, ↓reduceIte])
    · rfl
    · rfl
    have hfs2 := Nat.lt_of_le_of_lt (Nat.le_trans (len_sums (lits := lits) (taken := taken) (value := value) (x := x) (s := s)) hs) (by decide : 32 < 64)
    have hfs : ((s.flatMap fun one => (moreOf lits taken value x).map fun late => one + late).map V.int).length ≤ lim := by rw [List.length_map]; exact Nat.le_trans (Nat.le_trans len_sums hs) (by decide : 32 ≤ lim)
    have hfm : (s.flatMap fun a => (moreOf lits taken value x).map fun late => V.int (a + late)) = (s.flatMap fun one => (moreOf lits taken value x).map fun late => one + late).map V.int := by simp [List.map_flatMap]; rfl
    apply ends_asg (v := zs (stepS lits taken value s x)) (σ1 := σ')
    · simp! [↓bz, ev_sorted]
      rw [ev_comp2 V.int s V.int (fun _ => moreOf lits taken value x) (fun one late => .int (one + late)) (fun ρ => ρ "more" = some (zs (moreOf lits taken value x))) (fun one ρ => ρ "more" = some (zs (moreOf lits taken value x)) ∧ ρ "one" = some (.int one)) rfl (by simp! [↓q6, nr, ur, oj, ↓reduceIte, String.reduceEq, h5]; rfl) (walk_zs (Nat.le_trans (by exact lin [_] (.h 1 0 (.r (.v 0) 2) (.c 32) (.g 2 0 (.v 0) (.c 16))) rfl hs : _ ≤ 16) (by decide))) rfl (by rw [hfm]; exact hfs)]
      · rw [hfm]
        simp! [mkL_f, ob_s, lst_zs, sorted_run hfs2]
        rfl
      · rintro one _ ρ h8
        refine in_EEAAA _ _ rfl ⟨h8, rfl⟩ (by simp! [↓q6, eq_self, nr, ur, oj, ↓reduceIte, String.reduceEq, h8]) (walk_zs (Nat.le_trans moreOf_len (by decide)))
      · intro one _ late _ ρ hri_
        obtain ⟨h8, h9⟩ := hri_
        exact in_EAA _ rfl ⟨h8, h9⟩ (by simp! [↓q6, ↓q8, eq_self, ↓bz, ob_s, pu, nr, ur, oj, binV_addi, ↓reduceIte, String.reduceEq, h9])
      · exact fun _ _ h => h.1
    · rfl
    · rfl
    apply ends_nil
    refine in_AAAAAA rfl rfl (by simp! [eq_self, ur, oj, ↓reduceIte, String.reduceEq, h1]) (by simp! [eq_self, ur, oj, ↓reduceIte, String.reduceEq, h2]) (by simp! [eq_self, ur, oj, ↓reduceIte, String.reduceEq, h3]) (by simp! [eq_self, ur, oj, ↓reduceIte, String.reduceEq, h4]) (in_EAA _ rfl ?_ h7)
    have h8 : (stepS lits taken value s x).length ≤ s.length * 2 := Nat.le_trans len_sortedSet len_sums
    simp only [List.length_cons, Nat.pow_succ] at h6
    have := Nat.mul_le_mul_right (2 ^ r.length) h8
    rw [Nat.mul_assoc, Nat.mul_comm 2] at this
    exact lin [_,_] (.h 1 0 (.v 0) (.c 32) (.h 1 0 (.v 1) (.v 0) (.g 1 0 (.v 1) (.c 32)))) rfl h6 this
  · intro ρ σ' hri_
    refine el_AAAAAE hri_ fun hq0_ h1 h2 h3 h4 s hr1_ => ?_
    refine el_AA hr1_ fun h5 h6 h7 => ?_
    refine eq_l hq0_ ?_
    have hsl : s.length ≤ lim := Nat.le_trans (by simp at h6; exact lin [_] (.h 1 0 (.v 0) (.c 32) (.g 1 0 (.v 0) (.c 32))) rfl h6 : _ ≤ 32) (by decide)
    apply ends_ret
    · simp! [↓q13, ↓q16, ↓qs1, ↓qC1, ↓bz, qc2, List.isEmpty_nil]
      rw [ev_comp1 V.int s (fun one => decide (one ∈ fit (rg (-2) 9) lits m)) V.int (fun ρ => ρ "literals" = some (.lst (lits.map lit)) ∧ ρ "n" = some (.int m)) rfl (by simp! [↓q6, nr, h5]; rfl) (walk_zs (Nat.le_trans (by simp at h6; exact lin [_] (.h 1 0 (.v 0) (.c 32) (.g 1 0 (.v 0) (.c 32))) rfl h6 : _ ≤ 32) (by decide))) rfl ⟨by exact h1, by exact h4⟩ (Nat.le_trans (by simp at h6; exact lin [_] (.h 1 0 (.v 0) (.c 32) (.g 1 0 (.v 0) (.c 32))) rfl h6 : _ ≤ 32) (by decide))]
      · simp! [mkL_f, eq_self, ↓bz, ob_s, pu, ↓reduceIte, Bool.and_true, mkL_f0, lst_zs, eqV_zs_nil]
        rfl
      · intro one _ ρ hri_
        obtain ⟨h8, h9⟩ := hri_
        refine in_EAAA _ rfl ⟨h8, h9⟩ ?_ (fun _ => by simp! [↓q6, eq_self, nr, ur, ↓reduceIte])
        simp! [↓q3, ↓q6, ↓q9, ↓q25f, cfu, callN_range2, eq_self, ↓qs1, ↓qs2, ↓qC1, ↓qt5, ↓qtA1, ↓qtA2, ↓bz, ob_s, pu, nr, ur, oj, qc10, ↓reduceIte, List.isEmpty_nil, Bool.and_true, String.reduceEq, h8, h9, fit_run (walk_rng (lo := -2) (hi := 9) (by exact ⟨lini [] (.g 1 0 (.u (.c 1000)) (.u (.c 2))) rfl, lini [] (.g 1 0 (.u (.c 2)) (.c 100000)) rfl⟩) (by exact ⟨lini [] (.g 1 0 (.u (.c 1000)) (.c 9)) rfl, lini [] (.g 1 0 (.c 9) (.c 100000)) rfl⟩)) hr2 hl2, inV_zs, ite_tf]
    · refine ⟨?_, rfl⟩
      unfold isWay
      rw [← h7]
      rfl
end
section
open PySem
set_option maxRecDepth 100000
set_option backward.defeqAttrib.useBackward true
section
variable {P : Prm} {cf : CF} {sc : Scope} {σ : Sg}
theorem callN_list_zs {xs : List Int} (hg : isGlob sc (Str.ofString "list") = true) (h : xs.length ≤ lim) : callN P cf sc (Str.ofString "list") [zs xs] σ = some (zs xs, σ) := callN_list hg (by simpa using h)
theorem callN_len_zs {xs : List Int} (hg : isGlob sc (Str.ofString "len") = true) (h : xs.length ≤ lim) : callN P cf sc (Str.ofString "len") [zs xs] σ = some (.int xs.length, σ) := by
  rw [zs, callN_len hg (by simpa using h), List.length_map]
theorem eqV_zs1 {a : List Int} {v : Int} : eqV (zs a) (.lst [.int v]) σ = some (decide (a = [v]), σ) := eqV_zs a [v] σ
theorem idx_zs_last {xs : List Int} (h : xs ≠ []) (hl : xs.length ≤ lim) : idxV (zs xs) (.int (-1)) σ = some (.int (xs.getLastD 0), σ) := by
  obtain ⟨i, x, rfl⟩ : ∃ i x, xs = i ++ [x] := ⟨xs.dropLast, xs.getLast h, (List.dropLast_concat_getLast h).symm⟩
  rw [zs, List.map_append, List.getLastD_concat]
  exact idx_lst_last (by rw [List.length_map]; rw [List.length_append] at hl; exact hl)
theorem idx_zs_0 {xs : List Int} (h : xs ≠ []) (hl : xs.length ≤ lim) : idxV (zs xs) (.int 0) σ = some (.int (xs.headD 0), σ) := by
  cases xs with
  | nil => exact absurd rfl h
  | cons x r =>
    exact idx_lat (i := 0) rfl (by rwa [List.length_map])
theorem idx_zs_at {xs : List Int} {i : Nat} (h : i < xs.length) (hl : xs.length ≤ lim) : idxV (zs xs) (.int i) σ = some (.int (xs.getD i 0), σ) := by
  exact idx_lat (by simp [h]) (by rwa [List.length_map])
variable {L : List (List Int)} {l : Nat}
theorem idx_L {x : Nat} (hL : σ[l]? = some (.list (L.map zs))) (hx : x < L.length) (hl : L.length ≤ lim) : idxV (.ref l) (.int x) σ = some (zs (L.getD x []), σ) :=
  idx_ref hL (by simp [hx]) (by simpa using hl)
theorem set_L {x : Nat} {z : List Int} (hx : x < L.length) (hl : L.length ≤ lim) : setIdxV (.ref σ.length) (.int x) (zs z) (σ ++ [MObj.list (L.map zs)]) = some ((), σ ++ [MObj.list ((L.set x z).map zs)]) := by
  simp only [setIdxV, asRef, asInt, nr, bq, getObj_run, List.getElem?_concat_length, cq]
  rw [if_pos (by simp [hx, hl])]
  simp [setObj_run]
theorem walk_L (hL : σ[l]? = some (.list (L.map zs))) (hl : L.length ≤ lim) : walkV (.ref l) σ = some ((L.map zs, some l), σ) := by
  show (getObj l >>= _) σ = _
  rw [bq, getObj_run, hL]
  show (check (decide ((L.map zs).length ≤ lim)) >>= fun _ => pure (L.map zs, some l) : M _) σ = _
  rw [bq, cq, if_pos (by simpa using hl)]; rfl
theorem still_L (hL : σ[l]? = some (.list (L.map zs))) : still (L.map zs) (some l) σ = some ((), σ) := by
  show (getObj l >>= _) σ = _
  rw [bq, getObj_run, hL]
  show check (V.beqs (L.map zs) (L.map zs)) σ = _
  rw [cq, if_pos ((V.beqs_iff _ _).mpr rfl)]
end
noncomputable def sureN (L : List (List Int)) (tk : List Nat) (v : Int) : Nat := (tk.filter fun x => decide (L.getD x [] = [v])).length
noncomputable def ableN (L : List (List Int)) (tk : List Nat) (v : Int) : Nat := (tk.filter fun x => decide (v ∈ L.getD x [])).length
noncomputable def numF (L : List (List Int)) (tk : List Nat) (v : Int) (n : Nat) : List Int := (L.getD n []).filter fun k => decide ((sureN L tk v : Int) ≤ k) && decide (k ≤ (ableN L tk v : Int))
noncomputable def stepO (L : List (List Int)) (tk : List Nat) (v : Int) (n : Nat) (F : List (List Int)) (x : Nat) : List (List Int) :=
  if v ∈ L.getD x [] ∧ L.getD x [] ≠ [v] then
    (if (numF L tk v n).getLastD 0 = (sureN L tk v : Int) then F.set x ((L.getD x []).filter fun u => !decide (u = v))
     else if (numF L tk v n).headD 0 = (ableN L tk v : Int) then F.set x [v] else F)
  else F
noncomputable def onceD (L : List (List Int)) (tk : List Nat) (v : Int) (n : Nat) : Bool := !decide (numF L tk v n = [])
noncomputable def onceF (L : List (List Int)) (tk : List Nat) (v : Int) (n : Nat) : List (List Int) :=
  if numF L tk v n = [] then L.set n (numF L tk v n) else tk.foldl (stepO L tk v n) (L.set n (numF L tk v n))
noncomputable def ztk (tk : List Nat) : V := .lst (tk.map fun x : Nat => V.int (x : Int))
theorem walk_tk {tk : List Nat} {σ : Sg} (h : tk.length ≤ lim) : walkV (ztk tk) σ = some ((tk.map fun x : Nat => V.int (x : Int), none), σ) := by
  exact walk_lst (by rwa [List.length_map])
theorem stepO_len {L : List (List Int)} {tk : List Nat} {v : Int} {n : Nat} {F : List (List Int)} {x : Nat} : (stepO L tk v n F x).length = F.length := by
  unfold stepO; split
  · split
    · simp
    · split <;> simp
  · rfl
theorem stepO_n {L : List (List Int)} {tk : List Nat} {v : Int} {n : Nat} {F : List (List Int)} {x : Nat} (h : x ≠ n) : (stepO L tk v n F x).getD n [] = F.getD n [] := by
  unfold stepO; split
  · split
    · simp [List.getElem?_set_ne h]
    · split
      · simp [List.getElem?_set_ne h]
      · rfl
  · rfl
theorem once_run {n : Nat} {L : List (List Int)} {tk : List Nat} {v : Int} {m l : Nat} {σ : Sg} (hL : σ[l]? = some (.list (L.map zs))) (hlen : L.length ≤ 1000) (hls : ∀ z ∈ L, z.length ≤ 1000) (htk : tk.length ≤ 1000) (hx : ∀ x ∈ tk, x < m) (hm : m < L.length) :
    call (n + 1) (none, ("_law_once" : Str)) [.ref l, ztk tk, .int v, .int m] σ = some (.tup [.bool (onceD L tk v m), .ref σ.length], σ ++ [MObj.list ((onceF L tk v m).map zs)]) := by
  have hlen' : L.length ≤ lim := Nat.le_trans hlen (by decide)
  have htk' : tk.length ≤ lim := Nat.le_trans htk (by decide)
  have hg : ∀ x, (L.getD x []).length ≤ lim := fun x => by
    by_cases hx : x < L.length
    · rw [List.getD_eq_getElem?_getD, List.getElem?_eq_getElem hx]; exact Nat.le_trans (hls _ (List.getElem_mem hx)) (by decide)
    · simp [List.getD, List.getElem?_eq_none (by exact lin [_,_] (.h 1 5 (.v 0) (.v 1) (.g 1 0 (.v 1) (.v 0))) rfl hx : L.length ≤ x)]
  have hL2 : ∀ o : MObj, (σ ++ [o])[l]? = some (.list (L.map zs)) := fun o => by
    rw [List.getElem?_append_left (List.getElem?_eq_some_iff.mp hL).1]; exact hL
  have hc1 : ∀ p : Nat → Bool, ((tk.filter p).map fun x : Nat => V.int (x : Int)).length ≤ lim := fun p => by
    rw [List.length_map]; exact Nat.le_trans (List.length_filter_le _ _) htk'
  apply call_ends rfl rfl rfl rfl
  apply ends_asg
  · simp! [↓q25f, ↓qs1, ↓qs2, ↓bz, qb1, qb2, List.map_cons, List.map_nil]
    rw [ev_comp1 (fun x : Nat => V.int (x : Int)) tk (fun x => decide (L.getD x [] = [v])) (fun x : Nat => V.int (x : Int)) (fun ρ => ρ "lists" = some (.ref l) ∧ ρ "value" = some (.int v)) rfl rfl (walk_tk htk') rfl ⟨rfl, rfl⟩ htk']
    · simp! [callN_len, mkL_f, ↓bz, ob_s, pu, List.length_map]
      rfl
    · intro x hxt ρ hri_
      obtain ⟨h1, h2⟩ := hri_
      refine in_EAAA _ rfl ⟨h1, h2⟩ ?_ (fun _ => by simp! [↓q6, eq_self, nr, ur, ↓reduceIte])
      simp! [↓q6, ↓q13, ↓q21f, eq_self, ↓qs1, ↓qs2, ↓qC1, ↓qt5, ↓qtA1, ↓qtA2, ↓bz, ob_s, pu, nr, ur, oj, qc1, ↓reduceIte, List.isEmpty_nil, Bool.and_true, String.reduceEq, h1, h2, idx_L hL (Nat.lt_trans (hx x hxt) hm) hlen', mkL_f1, eqV_zs1, ite_tf]
  · rfl
  · rfl
  apply ends_asg
  · simp! [↓q25f, ↓qs1, ↓qs2, ↓bz, qb1, qb2, List.map_cons, List.map_nil]
    rw [ev_comp1 (fun x : Nat => V.int (x : Int)) tk (fun x => decide (v ∈ L.getD x [])) (fun x : Nat => V.int (x : Int)) (fun ρ => ρ "lists" = some (.ref l) ∧ ρ "value" = some (.int v)) rfl rfl (walk_tk htk') rfl ⟨rfl, rfl⟩ htk']
    · simp! [callN_len, mkL_f, ↓bz, ob_s, pu, List.length_map]
      rfl
    · intro x hxt ρ hri_
      obtain ⟨h1, h2⟩ := hri_
      refine in_EAAA _ rfl ⟨h1, h2⟩ ?_ (fun _ => by simp! [↓q6, eq_self, nr, ur, ↓reduceIte])
      simp! [↓q6, ↓q21f, eq_self, ↓qC1, ↓qt5, ↓qtA1, ↓qtA2, ↓bz, ob_s, pu, nr, ur, oj, qc10, ↓reduceIte, List.isEmpty_nil, Bool.and_true, String.reduceEq, h1, h2, idx_L hL (Nat.lt_trans (hx x hxt) hm) hlen', inV_zs, ite_tf]
  · rfl
  · rfl
  apply ends_asg
  · simp! [qb1, qb2, List.map_cons, List.map_nil]
    rw [ev_comp1 zs L (fun _ => true) zs (fun ρ => True) rfl rfl (walk_L hL hlen') (still_L hL) trivial hlen']
    · rw [show (L.filter fun _ => true) = L by simp]
      have : (L.map zs).length ≤ lim := by simpa using hlen'
      simp! [mkL_t]
      rfl
    · rintro x hxt ρ _
      refine in_EAAA _ rfl trivial (by simp! [eq_self, ↓qtA1, pu]) (fun _ => ?_)
      have : x.length ≤ lim := Nat.le_trans (hls x hxt) (by decide)
      simp! [↓q6, ↓q25f, eq_self, ↓qs1, ↓qs2, ↓bz, ob_s, pu, nr, ur, ↓reduceIte, callN_list_zs]
  · rfl
  · rfl
  have hn1 : (numF L tk v m).length ≤ lim := Nat.le_trans (List.length_filter_le _ _) (hg m)
  have hgm := hg m
  apply ends_asg (v := zs (numF L tk v m)) (σ1 := σ ++ [MObj.list (L.map zs)]) (σ' := σ ++ [MObj.list ((L.set m (numF L tk v m)).map zs)])
  · simp! [qb1, qb2, List.map_cons, List.map_nil]
    rw [ev_comp1 (σ := σ ++ [MObj.list (L.map zs)]) (σ1 := σ ++ [MObj.list (L.map zs)]) V.int (L.getD m []) (fun k => decide ((sureN L tk v : Int) ≤ k) && decide (k ≤ (ableN L tk v : Int))) V.int (fun ρ => ρ "sure" = some (.int (sureN L tk v)) ∧ ρ "able" = some (.int (ableN L tk v))) rfl (by simp! [↓q6, ↓q21f, eq_self, ↓bz, ob_s, nr, ur, oj, ↓reduceIte, String.reduceEq, idx_L (hL2 _) hm hlen']) (walk_zs hgm) rfl ⟨rfl, rfl⟩ hgm]
    · simp! [mkL_f, lst_zs]
      rfl
    · intro k _ ρ hri_
      obtain ⟨h1, h2⟩ := hri_
      refine in_EAAA _ rfl ⟨h1, h2⟩ ?_ (fun _ => by simp! [↓q6, eq_self, nr, ur, ↓reduceIte])
      by_cases hc : (sureN L tk v : Int) ≤ k
      · simp! [↓q6, eq_self, ↓qC1, ↓qt5, ↓qtA1, ↓qtA2, ↓bz, ob_s, pu, nr, ur, oj, Bool.false_eq_true, qc4, ↓reduceIte, List.isEmpty_cons, List.isEmpty_nil, Bool.and_true, Bool.true_and, Bool.and_false, decide_true, String.reduceEq, h1, h2, hc, decide_true, ite_tf]
      · simp! [↓q6, eq_self, ↓qC1, ↓qt5, ↓qtA1, ↓qtA2, ↓bz, ob_s, pu, nr, ur, oj, Bool.false_eq_true, qc4, ↓reduceIte, List.isEmpty_cons, List.isEmpty_nil, Bool.and_false, Bool.false_and, decide_false, String.reduceEq, h1, hc, decide_false]
  · rfl
  · simp! [↓q6, eq_self, ↓qa6f, ↓bz, ob_s, pu, nr, qb1, qb2, ur, oj, List.map_cons, List.map_nil, ↓reduceIte, String.reduceEq, set_L hm hlen']
    rfl
  have hset := @set_L
  generalize hF0 : L.set m (numF L tk v m) = F0
  have hF0l : F0.length = L.length := by rw [← hF0, List.length_set]
  have hF0n : F0.getD m [] = numF L tk v m := by rw [← hF0]; simp [hm]
  by_cases hc : numF L tk v m = []
  · apply ends_if_t
    · simp! [↓q6, ↓q13, ↓q21f, eq_self, ↓qs1, ↓qC1, ↓qt5, ↓bz, ob_s, pu, nr, ur, oj, qc1, ↓reduceIte, List.isEmpty_nil, Bool.and_true, decide_true, String.reduceEq, idx_L (L := F0) (l := σ.length) (σ := σ ++ [MObj.list (F0.map zs)]) (by simp) (hF0l ▸ hm) (hF0l ▸ hlen'), hF0n, hc, mkL_f0, eqV_zs_nil, decide_true]
      rfl
    apply ends_ret
    · simp! [↓q2, ↓q6, ↓q14, lim_2, eq_self, ↓qs1, ↓qs2, ↓bz, ob_s, pu, check_t, nr, ur, ↓reduceIte, List.length_cons, List.length_nil, Nat.zero_add, Nat.reduceAdd]; rfl
    · have h1 : onceD L tk v m = false := by unfold onceD; rw [hc]; rfl
      have h2 : onceF L tk v m = F0 := by unfold onceF; rw [if_pos hc, hF0]
      rw [h1, h2]
      exact ⟨rfl, rfl⟩
  · apply eif
    · simp! [↓q6, ↓q13, ↓q21f, eq_self, ↓qs1, ↓qC1, ↓qt5, ↓bz, ob_s, pu, nr, ur, oj, qc1, ↓reduceIte, List.isEmpty_nil, Bool.and_true, decide_false, String.reduceEq, idx_L (L := F0) (l := σ.length) (σ := σ ++ [MObj.list (F0.map zs)]) (by simp) (hF0l ▸ hm) (hF0l ▸ hlen'), hF0n, hc, mkL_f0, eqV_zs_nil, decide_false]
      rfl
    have h1 : onceD L tk v m = true := by unfold onceD; rw [decide_eq_false hc]; rfl
    have h2 : onceF L tk v m = tk.foldl (stepO L tk v m) F0 := by unfold onceF; rw [if_neg hc, hF0]
    apply ends_for (fun x : Nat => V.int (x : Int)) tk (fun r ρ σ' => ρ "lists" = some (.ref l) ∧ ρ "value" = some (.int v) ∧ ρ "n" = some (.int m) ∧ ρ "sure" = some (.int (sureN L tk v)) ∧ ρ "able" = some (.int (ableN L tk v)) ∧ ρ "found" = some (.ref σ.length) ∧ (∀ x ∈ r, x < m) ∧ ∃ F, σ' = σ ++ [MObj.list (F.map zs)] ∧ F.length = L.length ∧ F.getD m [] = numF L tk v m ∧ r.foldl (stepO L tk v m) F = tk.foldl (stepO L tk v m) F0)
    · simp! [↓q6, eq_self, nr, ur, oj, ↓reduceIte, String.reduceEq]; rfl
    · exact walk_tk htk'
    · exact in_AAAAAA rfl rfl rfl rfl rfl rfl (in_AEAAA hx F0 rfl hF0l hF0n rfl)
    · intro x r ρ σ' hri_
      refine el_AAAAAA hri_ fun g1 g2 g3 g4 g5 g6 hr1_ => ?_
      refine el_AEAAA hr1_ fun hxr F hq8_ hFl hFn hfold => ?_
      refine eq_l hq8_ ?_
      have hxm : x < m := hxr x (by simp)
      have hxL : x < L.length := Nat.lt_trans hxm hm
      have hidx := idx_L (hL2 (.list (F.map zs))) hxL hlen'
      have hidn := idx_L (L := F) (l := σ.length) (σ := σ ++ [MObj.list (F.map zs)]) (by simp) (hFl ▸ hm) (hFl ▸ hlen')
      rw [hFn] at hidn
      have hgx := hg x
      have hl0 := idx_zs_last (σ := σ ++ [MObj.list (F.map zs)]) hc hn1
      have hh0 := idx_zs_0 (σ := σ ++ [MObj.list (F.map zs)]) hc hn1
      have hFl' : F.length ≤ lim := hFl ▸ hlen'
      have hxF : x < F.length := hFl ▸ hxL
      refine in_EEA _ _ rfl ?_
      have fin : stepO L tk v m F x = F → (ρ "lists" = some (.ref l) ∧ ρ "value" = some (.int v) ∧ ρ "n" = some (.int m) ∧ ρ "sure" = some (.int (sureN L tk v)) ∧ ρ "able" = some (.int (ableN L tk v)) ∧ ρ "found" = some (.ref σ.length)) := fun _ => ⟨g1, g2, g3, g4, g5, g6⟩
      have done : ∀ ρ2 : Rho, (ρ2 "lists" = some (.ref l) ∧ ρ2 "value" = some (.int v) ∧ ρ2 "n" = some (.int m) ∧ ρ2 "sure" = some (.int (sureN L tk v)) ∧ ρ2 "able" = some (.int (ableN L tk v)) ∧ ρ2 "found" = some (.ref σ.length)) → ∀ F', F' = stepO L tk v m F x → (ρ2 "lists" = some (.ref l) ∧ ρ2 "value" = some (.int v) ∧ ρ2 "n" = some (.int m) ∧ ρ2 "sure" = some (.int (sureN L tk v)) ∧ ρ2 "able" = some (.int (ableN L tk v)) ∧ ρ2 "found" = some (.ref σ.length) ∧ (∀ x ∈ r, x < m) ∧ ∃ F2, σ ++ [MObj.list (F'.map zs)] = σ ++ [MObj.list (F2.map zs)] ∧ F2.length = L.length ∧ F2.getD m [] = numF L tk v m ∧ r.foldl (stepO L tk v m) F2 = tk.foldl (stepO L tk v m) F0) := by
        rintro ρ2 ⟨k1, k2, k3, k4, k5, k6⟩ F' rfl
        refine in_AAAAAA k1 k2 k3 k4 k5 k6 (in_AEAAA (fun y hy => hxr y (by simp [hy])) _ rfl ?_ ?_ hfold)
        · rw [stepO_len, hFl]
        · rw [stepO_n (by exact fun q_ => lin [_,_] (.h 1 1 (.v 0) (.v 1) (.h 1 3 (.v 0) (.v 1) .f)) rfl hxm q_), hFn]
      by_cases c1 : v ∈ L.getD x []
      · have e1 := decide_eq_true c1
        by_cases c2 : L.getD x [] = [v]
        · have e2 := decide_eq_true c2
          apply eif
          · simp! [↓q6, ↓q13, ↓q21f, eq_self, ↓qs1, ↓qs2, ↓qC1, ↓qt3, ↓qt5, ↓qtB1, ↓qtB2, ↓bz, ob_s, pu, nr, ur, oj, qc2, qc10, ↓reduceIte, List.isEmpty_nil, Bool.and_true, Bool.not_true, String.reduceEq, g1, g2, hidx, inV_zs, e1, mkL_f1, eqV_zs1, e2]
            rfl
          apply ends_nil
          refine ⟨rfl, done _ ⟨g1, g2, g3, g4, g5, g6⟩ F ?_⟩
          unfold stepO
          rw [if_neg (fun h => h.2 c2)]
        · have e2 := decide_eq_false c2
          apply ends_if_t
          · simp! [↓q6, ↓q13, ↓q21f, eq_self, ↓qs1, ↓qs2, ↓qC1, ↓qt3, ↓qt5, ↓qtB1, ↓qtB2, ↓bz, ob_s, pu, nr, ur, oj, qc2, qc10, ↓reduceIte, List.isEmpty_nil, Bool.and_true, Bool.not_false, beq_self_eq_true, String.reduceEq, g1, g2, hidx, inV_zs, e1, mkL_f1, eqV_zs1, e2]
            rfl
          by_cases c3 : (numF L tk v m).getLastD 0 = (sureN L tk v : Int)
          · have e3 := decide_eq_true c3
            apply ends_if_t
            · simp! [↓q3, ↓q6, ↓q9, ↓q21f, eq_self, ↓qC1, ↓qt5, ↓bz, ob_s, pu, nr, ur, oj, qc1, ↓reduceIte, List.isEmpty_nil, Bool.and_true, String.reduceEq, eqV_int, g3, g4, g6, hidn, hl0, e3]
              rfl
            apply ends_asg (v := zs ((L.getD x []).filter fun u => !decide (u = v))) (σ1 := σ ++ [MObj.list (F.map zs)])
            · rw [ev_comp1 (σ := σ ++ [MObj.list (F.map zs)]) (σ1 := σ ++ [MObj.list (F.map zs)]) V.int (L.getD x []) (fun u => !decide (u = v)) V.int (fun ρ => ρ "value" = some (.int v)) rfl (by simp! [↓q6, ↓q21f, eq_self, ↓bz, ob_s, nr, ur, oj, ↓reduceIte, String.reduceEq, g1, hidx]) (walk_zs hgx) rfl (by exact g2) hgx]
              · simp! [mkL_f, eq_self, lst_zs]
              · rintro k _ ρ h1
                exact in_EAAA _ rfl h1 (by simp! [↓q6, eq_self, ↓qC1, ↓qt5, ↓qtA1, ↓qtA2, ↓bz, ob_s, pu, nr, ur, oj, qc2, ↓reduceIte, List.isEmpty_nil, Bool.and_true, String.reduceEq, eqV_int, h1, ite_tf]) (fun _ => by simp! [↓q6, eq_self, nr, ur, ↓reduceIte])
            · rfl
            · simp! [↓q6, eq_self, ↓qa6f, ↓bz, ob_s, pu, nr, ur, oj, ↓reduceIte, String.reduceEq, g6, set_L hxF hFl']
              rfl
            apply ends_nil
            apply ends_nil
            apply ends_nil
            refine ⟨rfl, done _ ⟨g1, g2, g3, g4, g5, g6⟩ _ ?_⟩
            unfold stepO
            rw [if_pos ⟨c1, c2⟩, if_pos c3]
          · have e3 := decide_eq_false c3
            apply ends_if_f
            · simp! [↓q3, ↓q6, ↓q9, ↓q21f, eq_self, ↓qC1, ↓qt5, ↓bz, ob_s, pu, nr, ur, oj, qc1, ↓reduceIte, List.isEmpty_nil, Bool.and_true, String.reduceEq, eqV_int, g3, g4, g6, hidn, hl0, e3]
              rfl
            by_cases c4 : (numF L tk v m).headD 0 = (ableN L tk v : Int)
            · have e4 := decide_eq_true c4
              apply ends_if_t
              · simp! [↓q3, ↓q6, ↓q21f, eq_self, ↓qC1, ↓qt5, ↓bz, ob_s, pu, nr, ur, oj, qc1, ↓reduceIte, List.isEmpty_nil, Bool.and_true, String.reduceEq, eqV_int, g3, g5, g6, hidn, hh0, e4]
                rfl
              apply ends_asg (v := zs [v]) (σ1 := σ ++ [MObj.list (F.map zs)])
              · simp! [↓q6, ↓q13, ↓qs1, ↓qs2, ↓bz, ob_s, pu, nr, ur, oj, ↓reduceIte, String.reduceEq, g2, mkL_f1]
                rfl
              · rfl
              · simp! [↓q6, eq_self, ↓qa6f, ↓bz, ob_s, pu, nr, ur, oj, ↓reduceIte, String.reduceEq, g6, set_L hxF hFl']
                rfl
              apply ends_nil
              apply ends_nil
              apply ends_nil
              apply ends_nil
              refine ⟨rfl, done _ ⟨g1, g2, g3, g4, g5, g6⟩ _ ?_⟩
              unfold stepO
              rw [if_pos ⟨c1, c2⟩, if_neg c3, if_pos c4]
            · have e4 := decide_eq_false c4
              apply eif
              · simp! [↓q3, ↓q6, ↓q21f, eq_self, ↓qC1, ↓qt5, ↓bz, ob_s, pu, nr, ur, oj, qc1, ↓reduceIte, List.isEmpty_nil, Bool.and_true, String.reduceEq, eqV_int, g3, g5, g6, hidn, hh0, e4]
                rfl
              apply ends_nil
              apply ends_nil
              apply ends_nil
              refine ⟨rfl, done _ ⟨g1, g2, g3, g4, g5, g6⟩ F ?_⟩
              unfold stepO
              rw [if_pos ⟨c1, c2⟩, if_neg c3, if_neg c4]
      · have e1 := decide_eq_false c1
        apply eif
        · simp! [↓q6, ↓q13, ↓q21f, eq_self, ↓qs1, ↓qs2, ↓qC1, ↓qt3, ↓qt5, ↓qtB1, ↓qtB2, ↓bz, ob_s, pu, nr, ur, oj, qc2, qc10, ↓reduceIte, List.isEmpty_nil, Bool.and_true, String.reduceEq, g1, g2, hidx, inV_zs, e1]
          rfl
        apply ends_nil
        refine ⟨rfl, done _ ⟨g1, g2, g3, g4, g5, g6⟩ F ?_⟩
        unfold stepO
        rw [if_neg (fun h => c1 h.1)]
    · intro ρ σ' hri_
      refine el_AAAAAA hri_ fun g1 g2 g3 g4 g5 g6 hr1_ => ?_
      refine el_AEAAA hr1_ fun hxr F hq8_ hFl hFn hfold => ?_
      refine eq_l hq8_ ?_
      apply ends_ret
      · simp! [↓q2, ↓q6, ↓q14, lim_2, ↓qs1, ↓qs2, ↓bz, ob_s, pu, check_t, nr, List.length_cons, List.length_nil, Nat.zero_add, Nat.reduceAdd, g6]; rfl
      · rw [h1, h2, ← hfold]
        exact ⟨rfl, rfl⟩
end
section
open PySem
set_option maxRecDepth 100000
set_option backward.defeqAttrib.useBackward true
noncomputable def tz (tk : List Nat) : List Int := tk.map fun x : Nat => (x : Int)
theorem ztk_zs {tk : List Nat} : ztk tk = zs (tz tk) := by simp only [ztk, zs, tz, List.map_map]; rfl
noncomputable def wl (w : Wd) (L : List (List Int)) : Wd := { w with rest := .list (L.map zs) :: w.rest }
theorem wl_at {w : Wd} {L : List (List Int)} : (wl w L).g[7]? = some (.list (L.map zs)) := rfl
theorem wl_set {w : Wd} {L : List (List Int)} {x : Nat} {z : List Int} (hx : x < L.length) (hl : L.length ≤ lim) : setIdxV (.ref 7) (.int x) (zs z) (wl w L).g = some ((), (wl w (L.set x z)).g) := by
  show (do check (decide ((0 : Int) ≤ x) && decide ((x : Int) < ((L.map zs).length : Nat)) && decide ((L.map zs).length ≤ lim)); setObj 7 (.list ((L.map zs).set (x : Int).toNat (zs z))) : M Unit) (wl w L).g = _
  rw [bq, cq, if_pos (by simp [hx, hl])]
  dsimp only
  rw [Int.toNat_natCast, ← List.map_set]
  rfl
noncomputable def holdsIn (L : List (List Int)) (one : Lit) : Prop := one.x < L.length ∧ fit (L.getD one.x []) [one] one.x = L.getD one.x []
inductive Good (tk : List Nat) (v : Int) (m : Nat) : List En → List (List Int) → List (List Int) → Prop
  | nil {L} : Good tk v m [] L L
  | cons {e r L L' rs} : e.rs = some rs → rs.length ≤ 100 → (∀ one ∈ rs, holdsIn L one) → isWay (rs ++ [negL e.l]) (tz tk) v m = false → e.x < L.length → Good tk v m r (L.set e.x (fit (L.getD e.x []) [e.l] e.x)) L' → Good tk v m (e :: r) L L'
noncomputable def Fine (L : List (List Int)) : Prop := L.length ≤ 1000 ∧ ∀ z ∈ L, z.length ≤ 1000
theorem Fine.at {L : List (List Int)} (h : Fine L) (x : Nat) : (L.getD x []).length ≤ lim := by
  by_cases hx : x < L.length
  · rw [List.getD_eq_getElem?_getD, List.getElem?_eq_getElem hx]; exact Nat.le_trans (h.2 _ (List.getElem_mem hx)) (by decide)
  · simp [List.getD, List.getElem?_eq_none (by exact lin [_,_] (.h 1 5 (.v 0) (.v 1) (.g 1 0 (.v 1) (.v 0))) rfl hx : L.length ≤ x)]
theorem Fine.set {L : List (List Int)} (h : Fine L) {x : Nat} {z : List Int} (hz : z.length ≤ 1000) : Fine (L.set x z) := by
  refine ⟨by simpa using h.1, fun y hy => ?_⟩
  rcases List.mem_or_eq_of_mem_set hy with h1 | rfl
  · exact h.2 _ h1
  · exact hz
theorem Fine.at2 {L : List (List Int)} (h : Fine L) (x : Nat) : (L.getD x []).length ≤ 1000 := by
  by_cases hx : x < L.length
  · rw [List.getD_eq_getElem?_getD, List.getElem?_eq_getElem hx]; exact h.2 _ (List.getElem_mem hx)
  · simp [List.getD, List.getElem?_eq_none (by exact lin [_,_] (.h 1 5 (.v 0) (.v 1) (.g 1 0 (.v 1) (.v 0))) rfl hx : L.length ≤ x)]
theorem filter_nil {α : Type} {xs : List α} {p : α → Bool} (h : ∀ a ∈ xs, p a = false) : xs.filter p = [] := by
  rw [List.filter_eq_nil_iff]; intro a ha; simp [h a ha]
theorem holds_none {L : List (List Int)} {rs : List Lit} (h : ∀ one ∈ rs, holdsIn L one) : rs.filter (fun one => !decide (fit (L.getD one.x []) [one] one.x = L.getD one.x [])) = [] :=
  filter_nil fun one ho => by simp only [decide_eq_true (h one ho).2, Bool.not_true]
theorem fit1_run {n : Nat} {xs : List Int} {l : Lit} {x : Int} {σ : Sg} (hl : xs.length ≤ lim) : call (n + 2) (none, ("_law_fit" : Str)) [zs xs, .lst [lit l], .int x] σ = some (zs (fit xs [l] x), σ) :=
  fit_run (lits := [l]) (walk_zs hl) hl (by decide : 1 ≤ lim)
theorem right_run {n : Nat} {w : Wd} {L L' : List (List Int)} {tk : List Nat} {v : Int} {m : Nat} {es : List En} {due : Bool} (hG : Good tk v m es L L') (hF : Fine L) (htk : tk.length ≤ 5) (hes : es.length ≤ 1000)
    (hend : (due = true ∧ w.f = false) ∨ (due = false ∧ w.f = true ∧ ∃ cl, w.cl = .tup (cl.map lit) ∧ cl.length ≤ 100 ∧ (∀ one ∈ cl, holdsIn L' one) ∧ isWay cl (tz tk) v m = false)) :
    call (n + 4) (none, ("_law_is_right" : Str)) [stv, .lst (es.map en), .ref 7, .tup [ztk tk, .int v, .int m], .bool due] (wl w L).g = some (.bool true, (wl w L').g) := by
  have hes' : (es.map en).length ≤ lim := by rw [List.length_map]; exact Nat.le_trans hes (by decide)
  have htk' : (tz tk).length ≤ 5 := by simpa [tz] using htk
  apply call_ends rfl rfl rfl rfl
  apply ends_asg
  · rfl
  · rfl
  · rfl
  apply ends_for en es (fun r ρ σ' => ρ "store" = some stv ∧ ρ "lists" = some (.ref 7) ∧ ρ "taken" = some (ztk tk) ∧ ρ "value" = some (.int v) ∧ ρ "n" = some (.int m) ∧ ρ "due" = some (.bool due) ∧ ∃ L1, Fine L1 ∧ Good tk v m r L1 L' ∧ σ' = (wl w L1).g)
  · simp! [↓q6, eq_self, nr, qb1, qb2, ur, oj, List.map_cons, List.map_nil, ↓reduceIte, String.reduceEq]; rfl
  · exact walk_lst hes'
  · exact in_AAAAAA rfl rfl rfl rfl rfl rfl (in_EAA L hF hG rfl)
  · intro e r ρ σ' hri_
    refine el_AAAAAA hri_ fun g1 g2 g3 g4 g5 g6 hr1_ => ?_
    refine el_EAA hr1_ fun L1 hF1 hG1 hq9_ => ?_
    refine eq_l hq9_ ?_
    cases hG1 with
    | @cons _ _ _ _ rs hrs hrl hh hw hx hG2 =>
    obtain ⟨xe, eo, el, ers⟩ := e
    simp only at hrs hh hw hx hG2
    refine eq_l hrs ?_
    have hL1 : L1.length ≤ lim := Nat.le_trans hF1.1 (by decide)
    have hrl2 : rs.length ≤ lim := Nat.le_trans hrl (by decide)
    have hrl' : (rs.map lit).length ≤ lim := by simpa using hrl2
    have hidx := fun (x : Nat) (hx : x < L1.length) => idx_L (wl_at (w := w) (L := L1)) hx hL1
    have hat := hF1.at
    refine in_EEA _ _ rfl ?_
    apply eif
    · simp! [↓q13, ↓qs1, ↓qC1, ↓qt5, ↓bz, qb1, qb2, qc2, List.isEmpty_nil]
      rw [ev_comp1 lit rs (fun one => !decide (fit (L1.getD one.x []) [one] one.x = L1.getD one.x [])) (fun _ => .int 1) (fun ρ => ρ "lists" = some (.ref 7)) rfl rfl (walk_tup hrl') rfl (by exact g2) hrl2]
      · rw [holds_none hh]
        simp! [eq_self, ↓bz, ob_s, pu, List.map_nil, ↓reduceIte, Bool.and_true, Bool.not_true, List.map_nil, mkL_f0, show ∀ s, eqV (.lst []) (.lst []) s = some (true, s) from fun s => eqV_zs_nil [] s]
        rfl
      · rintro one ho ρ h1
        refine in_EAAA _ rfl h1 ?_ (fun _ => by simp! [↓q3, eq_self, pu])
        simp! [↓q3, ↓q6, ↓q13, ↓q21f, ↓q25f, cfu, eq_self, ↓qs1, ↓qs2, ↓qC1, ↓qt5, ↓qtA1, ↓qtA2, ↓bz, ob_s, pu, nr, ur, oj, qc2, ↓reduceIte, List.isEmpty_nil, Bool.and_true, String.reduceEq, h1, lit_idx0, hidx one.x (hh one ho).1, mkL_f1, fit1_run (hat _), eqV_zs, ite_tf]
    apply eif
    · have hadd : (rs.map lit).length + [lit (negL el)].length ≤ lim := by simp only [List.length_map, List.length_cons, List.length_nil]; exact Nat.le_trans (Nat.succ_le_succ hrl) (by decide)
      have hcat : rs.map lit ++ [lit (negL el)] = (rs ++ [negL el]).map lit := by simp
      have hcl : (rs ++ [negL el]).length ≤ lim := by simpa using hadd
      simp! [↓q6, ↓q8, ↓q13, ↓q25f, cfu, mkL_f, eq_self, ↓qs1, ↓qs2, ↓qt7, ↓bz, ob_s, pu, nr, qb1, qb2, ur, oj, qtr, ↓reduceIte, String.reduceEq, rV, callN_list_t, g3, g4, g5, ztk_zs, other_run, binV_addl, hcat, way_run hcl htk', hw]
      rfl
    apply ends_asg
    · simp! [↓q6, ↓q13, ↓q21f, ↓q25f, cfu, eq_self, ↓qs1, ↓qs2, ↓bz, ob_s, pu, nr, qb1, qb2, ur, oj, ↓reduceIte, String.reduceEq, g2, hidx xe hx, mkL_f1, fit1_run (hat _)]
      rfl
    · rfl
    · simp! [↓q6, eq_self, ↓qa6f, ↓bz, ob_s, pu, nr, qb1, qb2, ur, oj, ↓reduceIte, String.reduceEq, g2, wl_set hx hL1]
      rfl
    apply ends_nil
    refine in_AAAAAA rfl (by exact g1) (by exact g2) (by exact g3) (by exact g4) (by exact g5) (in_AEAA (by exact g6) _ ?_ hG2 rfl)
    exact hF1.set (Nat.le_trans fit_len (hF1.at2 _))
  · intro ρ σ' hri_
    refine el_AAAAAA hri_ fun g1 g2 g3 g4 g5 g6 hr1_ => ?_
    refine el_EAA hr1_ fun L1 hF1 hG1 hq9_ => ?_
    refine eq_l hq9_ ?_
    cases hG1
    rcases hend with ⟨rfl, hf⟩ | ⟨rfl, hf, cl, hcl, hcn, hh, hw⟩
    · apply ends_if_t
      · simp! [↓q6, ↓qt6, ↓bz, ob_s, pu, nr, qtr, g6]; rfl
      apply ends_ret
      · simp! [↓q6, ↓q9, ↓q17f, ↓bz, ob_s, pu, nr, qtr, g1, at_failed]
        rw [show (wl w L').f = false from hf]
      · exact ⟨rfl, rfl⟩
    · have hc2 : cl.length ≤ lim := Nat.le_trans hcn (by decide)
      have hc3 : (cl.map lit).length ≤ lim := by simpa using hc2
      have hL' : L'.length ≤ lim := Nat.le_trans hF1.1 (by decide)
      have hidx := fun (x : Nat) (hx : x < L'.length) => idx_L (wl_at (w := w) (L := L')) hx hL'
      have hat := hF1.at
      apply eif
      · simp! [↓q6, ↓qt6, ↓bz, ob_s, pu, nr, qtr, g6]; rfl
      apply ends_asg (v := .lst (cl.map lit)) (σ1 := (wl w L').g)
      · simp! [↓q6, ↓q17f, ↓q25f, ↓qs1, ↓qs2, ↓bz, ob_s, pu, nr, g1, at_clash]
        rw [show (wl w L').cl = .tup (cl.map lit) from hcl]
        simp! [eq_self, callN_list_t]
      · rfl
      · rfl
      apply eif
      · simp! [↓q13, ↓qs1, ↓qC1, ↓qt5, ↓bz, qc2, List.isEmpty_nil]
        rw [ev_comp1 lit cl (fun one => !decide (fit (L'.getD one.x []) [one] one.x = L'.getD one.x [])) (fun _ => .int 1) (fun ρ => ρ "lists" = some (.ref 7)) rfl rfl (walk_lst hc3) rfl (by exact g2) hc2]
        · rw [holds_none hh]
          simp! [eq_self, ↓bz, ob_s, pu, List.map_nil, ↓reduceIte, Bool.and_true, Bool.not_true, List.map_nil, mkL_f0, show ∀ s, eqV (.lst []) (.lst []) s = some (true, s) from fun s => eqV_zs_nil [] s]
          rfl
        · rintro one ho ρ h1
          refine in_EAAA _ rfl h1 ?_ (fun _ => by simp! [↓q3, eq_self, pu])
          simp! [↓q3, ↓q6, ↓q13, ↓q21f, ↓q25f, cfu, eq_self, ↓qs1, ↓qs2, ↓qC1, ↓qt5, ↓qtA1, ↓qtA2, ↓bz, ob_s, pu, nr, ur, oj, qc2, ↓reduceIte, List.isEmpty_nil, Bool.and_true, String.reduceEq, h1, lit_idx0, hidx one.x (hh one ho).1, mkL_f1, fit1_run (hat _), eqV_zs, ite_tf]
      apply ends_ret
      · simp! [↓q6, ↓q7, ↓q9, ↓q17f, ↓q25f, cfu, eq_self, ↓qs1, ↓qs2, ↓qB2, ↓bz, ob_s, pu, nr, ur, oj, Bool.false_eq_true, qtr, ↓reduceIte, List.isEmpty_cons, List.isEmpty_nil, Bool.not_false, String.reduceEq, g1, g3, g4, g5, at_failed, ztk_zs, way_run hc2 htk', hw, show (wl w L').f = true from hf]
        rfl
      · exact ⟨rfl, rfl⟩
end
section
open PySem
set_option maxRecDepth 100000
set_option backward.defeqAttrib.useBackward true
noncomputable def mem (d : Dom) : List Int := d.flatMap fun p => rg p.1 (p.2 + 1)
structure WF (d : Dom) : Prop where
  runs : ∀ p ∈ d, p.1 ≤ p.2
  srt : (mem d).Pairwise (· < ·)
theorem mem_nil : mem [] = [] := rfl
theorem mem_cons {p : Int × Int} {r : Dom} : mem (p :: r) = rg p.1 (p.2 + 1) ++ mem r := rfl
theorem mem_app {a b : Dom} : mem (a ++ b) = mem a ++ mem b := List.flatMap_append
theorem mem_mem {d : Dom} {v : Int} : v ∈ mem d ↔ ∃ p ∈ d, p.1 ≤ v ∧ v ≤ p.2 := by
  unfold mem
  rw [List.mem_flatMap]
  constructor
  · rintro ⟨p, hp, h⟩; rw [mem_rg] at h; exact ⟨p, hp, h.1, by exact lini [_,_] (.h 1 1 (.v 0) (.a (.v 1) (.c 1)) (.g 1 0 (.v 0) (.v 1))) rfl h.2⟩
  · rintro ⟨p, hp, h⟩; exact ⟨p, hp, mem_rg.mpr ⟨h.1, by exact lini [_,_] (.h 1 0 (.v 0) (.v 1) (.g 1 1 (.v 0) (.a (.v 1) (.c 1)))) rfl h.2⟩⟩
theorem rg_srt {lo hi : Int} : (rg lo hi).Pairwise (· < ·) := by
  unfold rg
  rw [List.pairwise_map]
  exact List.Pairwise.imp (fun h => by exact lini [_,_,_] (.h 1 1 (.v 0) (.v 1) (.g 1 1 (.a (.v 2) (.v 0)) (.a (.v 2) (.v 1)))) rfl (Int.ofNat_lt.mpr h)) (List.pairwise_lt_range (n := (hi - lo).toNat))
theorem flt_srt {a : List Int} {p : Int → Bool} (h : a.Pairwise (· < ·)) : (a.filter p).Pairwise (· < ·) := List.Pairwise.filter p h
theorem rg_le {a b k : Int} : (rg a b).filter (fun v => decide (v ≤ k)) = rg a (min b (k + 1)) := by
  refine srt_ext (flt_srt rg_srt) rg_srt fun v => ?_
  rw [List.mem_filter, mem_rg, mem_rg, decide_eq_true_iff, Int.lt_min, Int.lt_add_one_iff, and_assoc]
theorem rg_ge {a b k : Int} : (rg a b).filter (fun v => decide (v ≥ k)) = rg (max a k) b := by
  refine srt_ext (flt_srt rg_srt) rg_srt fun v => ?_
  rw [List.mem_filter, mem_rg, mem_rg, decide_eq_true_iff, Int.max_le]; exact and_right_comm
theorem rg_nil {a b : Int} (h : b ≤ a) : rg a b = [] := by
  have : (b - a).toNat = 0 := Int.toNat_eq_zero.mpr (Int.sub_nonpos_of_le h)
  unfold rg; rw [this]; rfl
theorem rg_one {a : Int} : rg a (a + 1) = [a] := by
  have : (a + 1 - a).toNat = 1 := by rw [Int.add_comm, Int.add_sub_cancel]; rfl
  unfold rg; rw [this]; exact congrArg (fun z => [z]) (Int.add_zero a)
theorem toNat_one {a b : Int} (h : a ≤ b) : (b + 1 - a).toNat = (b - a).toNat + 1 := by
  rw [show b + 1 - a = b - a + (1 : Nat) by omega]; exact Int.toNat_add_nat (Int.sub_nonneg_of_le h) 1
theorem upD_cons {p : Int × Int} {r : Dom} {k : Int} : upD (p :: r) k = (if p.1 ≤ k then [(p.1, min p.2 k)] else []) ++ upD r k := by
  unfold upD
  rw [List.filter_cons]
  by_cases h : p.1 ≤ k <;> simp [h]
theorem frD_cons {p : Int × Int} {r : Dom} {k : Int} : frD (p :: r) k = (if p.2 ≥ k then [(max p.1 k, p.2)] else []) ++ frD r k := by
  unfold frD
  rw [List.filter_cons]
  by_cases h : p.2 ≥ k
  · simp [h]
  · simp [h]
theorem mem_upD {d : Dom} {k : Int} : mem (upD d k) = (mem d).filter fun v => decide (v ≤ k) := by
  induction d with
  | nil => rfl
  | cons p r ih =>
    rw [upD_cons, mem_app, ih, mem_cons, List.filter_append, rg_le]
    congr 1
    by_cases h : p.1 ≤ k
    · rw [if_pos h, mem_cons, mem_nil, List.append_nil]
      exact congrArg (rg p.1) (Int.min_add_right p.2 k 1).symm
    · rw [if_neg h, mem_nil, rg_nil (Int.le_trans (Int.min_le_right _ _) (Int.not_le.mp h))]
theorem mem_frD {d : Dom} {k : Int} : mem (frD d k) = (mem d).filter fun v => decide (v ≥ k) := by
  induction d with
  | nil => rfl
  | cons p r ih =>
    rw [frD_cons, mem_app, ih, mem_cons, List.filter_append, rg_ge]
    congr 1
    by_cases h : p.2 ≥ k
    · rw [if_pos h, mem_cons, mem_nil, List.append_nil]
    · rw [if_neg h, mem_nil, rg_nil (Int.le_trans (Int.not_le.mp h) (Int.le_max_right _ _))]
theorem srt_split {l : List Int} {v : Int} (h : l.Pairwise (· < ·)) : l.filter (fun u => decide (u ≤ v - 1)) ++ l.filter (fun u => decide (u ≥ v + 1)) = l.filter fun u => !decide (u = v) := by
  refine srt_ext ?_ (flt_srt h) fun u => ?_
  · rw [List.pairwise_append]
    refine ⟨flt_srt h, flt_srt h, fun a ha b hb => ?_⟩
    simp only [List.mem_filter, decide_eq_true_iff] at ha hb
    exact lini [_,_,_] (.h 1 0 (.v 0) (.s (.v 1) (.c 1)) (.h 1 0 (.a (.v 1) (.c 1)) (.v 2) (.g 1 1 (.v 0) (.v 2)))) rfl ha.2 hb.2
  · simp only [List.mem_append, List.mem_filter, decide_eq_true_iff, Bool.not_eq_true', decide_eq_false_iff_not]
    constructor
    · rintro (⟨h1, h2⟩ | ⟨h1, h2⟩)
      · exact ⟨h1, Int.ne_of_lt (Int.lt_of_le_sub_one h2)⟩
      · exact ⟨h1, Int.ne_of_gt h2⟩
    · intro hri_
      obtain ⟨h1, h2⟩ := hri_
      by_cases h3 : u ≤ v - 1
      · exact .inl ⟨h1, h3⟩
      · exact .inr ⟨h1, Int.lt_iff_le_and_ne.mpr ⟨Int.not_lt.mp fun q => h3 (Int.le_sub_one_of_lt q), Ne.symm h2⟩⟩
theorem WF.tail {p : Int × Int} {r : Dom} (h : WF (p :: r)) : WF r := by
  refine ⟨fun q hq => h.runs q (by simp [hq]), ?_⟩
  have := h.srt
  rw [mem_cons, List.pairwise_append] at this
  exact this.2.1
theorem WF.head {p : Int × Int} {r : Dom} (h : WF (p :: r)) : ∀ v ∈ mem r, p.2 < v := by
  have := h.srt
  rw [mem_cons, List.pairwise_append] at this
  intro v hv
  have h1 := h.runs p (by simp)
  exact this.2.2 p.2 (mem_rg.mpr ⟨h1, by exact lini [_] (.g 1 1 (.v 0) (.a (.v 0) (.c 1))) rfl⟩) v hv
theorem mem_meD {d : Dom} {k : Int} (h : WF d) : mem (meD d k) = (mem d).filter fun v => decide (v = k) := by
  induction d with
  | nil => rfl
  | cons p r ih =>
    rw [meD_cons, mem_app, mem_cons, List.filter_append]
    have hp := h.runs p (by simp)
    by_cases h2 : p.2 < k
    · rw [if_neg fun q => Int.not_le.mpr h2 (Int.le_trans (Int.le_max_right _ _) (Int.le_trans q (Int.min_le_left _ _))), mem_nil, List.nil_append, if_pos h2, ih h.tail]
      rw [filter_nil (xs := rg p.1 (p.2 + 1)) (fun v hv => by rw [mem_rg] at hv; exact decide_eq_false (by exact fun q_ => lini [_,_,_] (.h 1 1 (.v 0) (.v 1) (.h 1 1 (.v 2) (.a (.v 0) (.c 1)) (.h 1 3 (.v 2) (.v 1) .f))) rfl h2 hv.2 q_)), List.nil_append]
    · rw [if_neg h2, mem_nil, List.append_nil]
      rw [filter_nil (xs := mem r) (fun v hv => by have := h.head v hv; exact decide_eq_false (by exact fun q_ => lini [_,_,_] (.h 1 5 (.v 0) (.v 1) (.h 1 1 (.v 0) (.v 2) (.h 1 2 (.v 2) (.v 1) .f))) rfl h2 this q_)), List.append_nil]
      by_cases h3 : p.1 ≤ k
      · rw [if_pos (Int.le_trans (Int.max_le.mpr ⟨h3, Int.le_refl k⟩) (Int.le_min.mpr ⟨Int.not_lt.mp h2, Int.le_refl k⟩)), mem_cons, mem_nil, List.append_nil]
        have e1 : max p.1 k = k := Int.max_eq_right h3
        have e2 : min p.2 k = k := Int.min_eq_right (Int.not_lt.mp h2)
        rw [e1, e2]
        refine srt_ext rg_srt (flt_srt rg_srt) fun v => ?_
        rw [List.mem_filter, mem_rg, mem_rg, decide_eq_true_iff, Int.lt_add_one_iff, Int.lt_add_one_iff]
        exact ⟨fun q => have e := Int.le_antisymm q.2 q.1; ⟨⟨e.symm ▸ h3, e.symm ▸ Int.not_lt.mp h2⟩, e⟩, fun q => ⟨Int.le_of_eq q.2.symm, Int.le_of_eq q.2⟩⟩
      · rw [if_neg fun q => h3 (Int.le_trans (Int.le_max_left _ _) (Int.le_trans q (Int.min_le_right _ _))), mem_nil]
        rw [filter_nil (xs := rg p.1 (p.2 + 1)) (fun v hv => by rw [mem_rg] at hv; exact decide_eq_false (by exact fun q_ => lini [_,_,_] (.h 1 4 (.v 0) (.v 1) (.h 1 0 (.v 0) (.v 2) (.h 1 2 (.v 2) (.v 1) .f))) rfl h3 hv.1 q_))]
theorem mem_skD {s : Sn} {k : Int} {d : Dom} (h : WF d) : mem (skD s k d) = (mem d).filter (fits s k) := by
  cases s
  · exact mem_upD
  · exact mem_frD
  · exact mem_meD h
  · show mem (upD d (k - 1) ++ frD d (k + 1)) = _
    rw [mem_app, mem_upD, mem_frD, srt_split h.srt]; rfl
theorem runs_upD {d : Dom} {k : Int} (h : ∀ p ∈ d, p.1 ≤ p.2) : ∀ p ∈ upD d k, p.1 ≤ p.2 := by
  intro p hp
  simp only [upD, List.mem_map, List.mem_filter, decide_eq_true_iff] at hp
  obtain ⟨q, ⟨hq, h2⟩, rfl⟩ := hp
  have := h q hq
  simp only []; lia
theorem runs_frD {d : Dom} {k : Int} (h : ∀ p ∈ d, p.1 ≤ p.2) : ∀ p ∈ frD d k, p.1 ≤ p.2 := by
  intro p hp
  simp only [frD, List.mem_map, List.mem_filter, decide_eq_true_iff] at hp
  obtain ⟨q, ⟨hq, h2⟩, rfl⟩ := hp
  have := h q hq
  simp only []; lia
theorem runs_meD {d : Dom} {k : Int} : ∀ p ∈ meD d k, p.1 ≤ p.2 := by
  induction d with
  | nil => intro p hp; exact (List.not_mem_nil hp).elim
  | cons q r ih =>
    intro p hp
    rw [meD_cons, List.mem_append] at hp
    rcases hp with hp | hp
    · split at hp
      · rw [List.mem_singleton] at hp; subst hp; assumption
      · simp at hp
    · split at hp
      · exact ih p hp
      · simp at hp
theorem WF_skD {s : Sn} {k : Int} {d : Dom} (h : WF d) : WF (skD s k d) := by
  refine ⟨?_, by rw [mem_skD h]; exact flt_srt h.srt⟩
  cases s
  · exact runs_upD h.runs
  · exact runs_frD h.runs
  · exact runs_meD
  · intro p hp
    rcases List.mem_append.mp hp with hp | hp
    · exact runs_upD h.runs p hp
    · exact runs_frD h.runs p hp
theorem mem_eq_nil {d : Dom} (h : WF d) : mem d = [] ↔ d = [] := by
  constructor
  · intro he
    cases d with
    | nil => rfl
    | cons p r =>
      have h1 := h.runs p (by simp)
      have : p.1 ∈ mem (p :: r) := mem_mem.mpr ⟨p, by simp, by exact lini [_] (.g 1 0 (.v 0) (.v 0)) rfl, h1⟩
      rw [he] at this; simp at this
  · rintro rfl; rfl
theorem len_le_mem {d : Dom} (h : WF d) : d.length ≤ (mem d).length := by
  induction d with
  | nil => simp
  | cons p r ih =>
    have h1 := h.runs p (by simp)
    have := ih h.tail
    rw [mem_cons, List.length_append, rg_len, List.length_cons, toNat_one h1]
    exact lin [_,_,_] (.h 1 0 (.v 0) (.v 1) (.g 1 0 (.a (.v 0) (.c 1)) (.a (.a (.v 2) (.c 1)) (.v 1)))) rfl this
theorem nextF_mem {d : Dom} {v : Int} (h : WF d) : nextF d v = some v ↔ v ∈ mem d := by
  induction d with
  | nil => exact ⟨fun h => fail_e h, fun h => (List.not_mem_nil h).elim⟩
  | cons p r ih =>
    rw [nextF_cons]
    have h1 := h.runs p (by simp)
    by_cases h2 : v ≤ p.2
    · rw [if_pos h2, mem_cons, List.mem_append, mem_rg]
      constructor
      · intro h3
        have := Option.some.inj h3
        exact .inl ⟨by lia, by exact lini [_,_] (.h 1 0 (.v 0) (.v 1) (.g 1 1 (.v 0) (.a (.v 1) (.c 1)))) rfl h2⟩
      · rintro (h3 | h3)
        · congr 1; lia
        · have := h.head v h3; exact (lini [_,_] (.h 1 0 (.v 0) (.v 1) (.h 1 1 (.v 1) (.v 0) .f)) rfl h2 this).elim
    · rw [if_neg h2, ih h.tail, mem_cons, List.mem_append, mem_rg]
      constructor
      · exact .inr
      · rintro (h3 | h3)
        · exact (lini [_,_] (.h 1 4 (.v 0) (.v 1) (.h 1 1 (.v 0) (.a (.v 1) (.c 1)) .f)) rfl h2 h3.2).elim
        · exact h3
theorem mem_single {d : Dom} {v : Int} (h : WF d) : mem d = [v] ↔ d = [(v, v)] := by
  constructor
  · intro he
    cases d with
    | nil => simp [mem] at he
    | cons p r =>
      have h1 := h.runs p (by simp)
      have h2 : p.1 ∈ mem (p :: r) := mem_mem.mpr ⟨p, by simp, by exact lini [_] (.g 1 0 (.v 0) (.v 0)) rfl, h1⟩
      have h3 : p.2 ∈ mem (p :: r) := mem_mem.mpr ⟨p, by simp, h1, by exact lini [_] (.g 1 0 (.v 0) (.v 0)) rfl⟩
      rw [he, List.mem_singleton] at h2 h3
      have h4 := len_le_mem h
      rw [he] at h4
      cases r with
      | nil => rw [show p = (v, v) from Prod.ext h2 h3]
      | cons q r => simp at h4
  · rintro rfl
    rw [mem_cons, mem_nil, List.append_nil, rg_one]
theorem head_mem {p : Int × Int} {r : Dom} (h : WF (p :: r)) : (mem (p :: r)).headD 0 = p.1 := by
  have h1 := h.runs p (by simp)
  have : p.1 ∈ mem (p :: r) := mem_mem.mpr ⟨p, by simp, by exact lini [_] (.g 1 0 (.v 0) (.v 0)) rfl, h1⟩
  rw [mem_cons]
  have h2 : (p.2 + 1 - p.1).toNat = (p.2 - p.1).toNat + 1 := toNat_one h1
  unfold rg
  rw [h2, List.range_succ_eq_map]
  simp
theorem last_mem {p : Int × Int} {r : Dom} (h : WF (r ++ [p])) : (mem (r ++ [p])).getLastD 0 = p.2 := by
  have h1 := h.runs p (by simp)
  rw [mem_app, mem_cons, mem_nil, List.append_nil]
  have h2 : (p.2 + 1 - p.1).toNat = (p.2 - p.1).toNat + 1 := toNat_one h1
  unfold rg
  rw [h2, List.range_succ]
  simp
  lia
theorem okL_iff {lits : List Lit} {x : Int} {v : Int} : okL lits x v = true ↔ ∀ l ∈ lits, (l.x : Int) = x → fits l.s l.k v = true := by
  unfold okL
  rw [decide_eq_true_iff, List.map_eq_nil_iff, List.filter_eq_nil_iff]
  constructor
  · intro h l hl hx
    have := h l hl
    simpa [hx] using this
  · intro h l hl
    by_cases hx : (l.x : Int) = x
    · simp [h l hl hx]
    · simp [hx]
theorem okL_one {l : Lit} {v : Int} : okL [l] l.x v = fits l.s l.k v := by
  rw [Bool.eq_iff_iff, okL_iff]; simp
theorem fit_one {l : Lit} {xs : List Int} : fit xs [l] l.x = xs.filter (fits l.s l.k) := by
  unfold fit
  congr 1
  funext v
  exact okL_one
theorem holds_iff {L : List (List Int)} {l : Lit} : holdsIn L l ↔ l.x < L.length ∧ ∀ v ∈ L.getD l.x [], fits l.s l.k v = true := by
  unfold holdsIn
  rw [fit_one, List.filter_eq_self]
end
section
open PySem
set_option maxRecDepth 100000
set_option backward.defeqAttrib.useBackward true
theorem sum_add {α : Type} (D : List α) (f g : α → Nat) : (D.map fun x => f x + g x).sum = (D.map f).sum + (D.map g).sum := by
  induction D with
  | nil => rfl
  | cons a r ih => simp only [List.map_cons, List.sum_cons, ih]; exact Nat.le_antisymm (lin [_,_,_,_] (.g 1 0 (.a (.a (.v 0) (.v 1)) (.a (.v 2) (.v 3))) (.a (.a (.v 0) (.v 2)) (.a (.v 1) (.v 3)))) rfl) (lin [_,_,_,_] (.g 1 0 (.a (.a (.v 0) (.v 1)) (.a (.v 2) (.v 3))) (.a (.a (.v 0) (.v 2)) (.a (.v 1) (.v 3)))) rfl)
theorem sum_ind {D : List Int} {t : Int} {P : Int → Bool} (hn : D.Pairwise (· < ·)) (ht : t ∈ D) : (D.map fun x => if P x = true then (if t = x then 1 else 0) else 0).sum = if P t = true then 1 else 0 := by
  induction D with
  | nil => simp at ht
  | cons a r ih =>
    have hn' := List.pairwise_cons.mp hn
    rw [List.map_cons, List.sum_cons]
    by_cases h : t = a
    · refine eq_r h ?_
      have h0 : (r.map fun x => if P x = true then (if t = x then 1 else 0) else 0).sum = 0 := by
        have hz : ∀ x ∈ r, (if P x = true then (if t = x then 1 else 0) else 0) = 0 := by
          intro x hx
          have := hn'.1 x hx
          rw [if_neg (show ¬ t = x by exact fun q_ => lini [_,_,_] (.h 1 2 (.v 0) (.v 1) (.h 1 1 (.v 1) (.v 2) (.h 1 3 (.v 0) (.v 2) .f))) rfl h this q_)]
          split <;> rfl
        rw [List.map_congr_left hz]
        clear ih hn hn' ht hz
        induction r with
        | nil => rfl
        | cons a r ih => rw [List.map_cons, List.sum_cons, ih]
      rw [h0]; simp
    · have ht' : t ∈ r := by
        rcases List.mem_cons.mp ht with h1 | h1
        · exact absurd h1 h
        · exact h1
      rw [ih hn'.2 ht']
      simp [h]
theorem wsum {T D : List Int} {P : Int → Bool} (hn : D.Pairwise (· < ·)) (ht : ∀ t ∈ T, t ∈ D) : (D.map fun x => if P x = true then T.count x else 0).sum = (T.filter P).length := by
  induction T with
  | nil =>
    have : ∀ D : List Int, (D.map fun x => if P x = true then ([] : List Int).count x else 0).sum = 0 := by
      intro D
      induction D with
      | nil => rfl
      | cons a r ih => rw [List.map_cons, List.sum_cons, ih]; simp
    rw [this]; rfl
  | cons t T ih =>
    have e : (D.map fun x => if P x = true then (t :: T).count x else 0) = D.map fun x => (if P x = true then T.count x else 0) + (if P x = true then (if t = x then 1 else 0) else 0) := by
      apply List.map_congr_left
      intro x _
      by_cases hp : P x = true
      · simp only [hp, if_true, List.count_cons, beq_iff_eq]
      · simp [hp]
    rw [e, sum_add, ih (fun s hs => ht s (by simp [hs])), sum_ind hn (ht t (by simp)), List.filter_cons]
    by_cases hp : P t = true <;> simp [hp]
theorem mem_stepS {lits : List Lit} {taken : List Int} {value : Int} {S : List Int} {x s : Int} : s ∈ stepS lits taken value S x ↔ ∃ one ∈ S, ∃ late ∈ moreOf lits taken value x, one + late = s := by
  unfold stepS
  rw [mem_sortedSet, List.mem_flatMap]
  simp only [List.mem_map]
theorem mem_moreOf {lits : List Lit} {taken : List Int} {value x late : Int} (h : late ∈ moreOf lits taken value x) : (value ∈ fit (rg (-1) 4) lits x ∧ late = taken.count x) ∨ ((∃ u ∈ fit (rg (-1) 4) lits x, u ≠ value) ∧ late = 0) := by
  unfold moreOf at h
  rw [List.mem_append] at h
  rcases h with h | h
  · by_cases c : value ∈ fit (rg (-1) 4) lits x
    · rw [decide_eq_true c, if_pos rfl, List.mem_singleton] at h; exact .inl ⟨c, h⟩
    · rw [decide_eq_false c, if_neg (by simp)] at h; simp at h
  · by_cases c : (fit (rg (-1) 4) lits x).filter (fun v => !decide (v = value)) = []
    · rw [decide_eq_true c, if_neg (by simp)] at h; simp at h
    · rw [decide_eq_false c, if_pos (by rfl), List.mem_singleton] at h
      refine .inr ⟨?_, h⟩
      obtain ⟨u, hu⟩ := List.exists_mem_of_ne_nil _ c
      rw [List.mem_filter] at hu
      exact ⟨u, hu.1, by simpa using hu.2⟩
theorem sums_lo {lits : List Lit} {taken : List Int} {value : Int} {P : Int → Bool} (hP : ∀ x, P x = true → ∀ u ∈ fit (rg (-1) 4) lits x, u = value) : ∀ (xs S : List Int) (s : Int), s ∈ xs.foldl (stepS lits taken value) S → ∃ s0 ∈ S, s0 + ((xs.map fun x => if P x = true then taken.count x else 0).sum : Nat) ≤ s
  | [], S, s, h => ⟨s, h, by simp⟩
  | x :: xs, S, s, h => by
    refine el_EA (sums_lo hP xs _ s h) fun s1 h1 h2 => ?_
    refine el_EAEA (mem_stepS.mp h1) fun one ho late hl hq4_ => ?_
    refine eq_l hq4_ ?_
    refine ⟨one, ho, ?_⟩
    rw [List.map_cons, List.sum_cons]
    by_cases hp : P x = true
    · rw [if_pos hp]
      rcases mem_moreOf hl with ⟨_, rfl⟩ | ⟨⟨u, hu, hne⟩, _⟩
      · exact lini [_,_,_,_,_] (.h 1 0 (.a (.v 0) (.v 1)) (.v 2) (.h 1 2 (.a (.v 3) (.v 4)) (.v 0) (.g 1 0 (.a (.v 3) (.a (.v 4) (.v 1))) (.v 2)))) rfl h2 hq4_
      · exact absurd (hP x hp u hu) hne
    · rw [if_neg hp]
      have : 0 ≤ late := by rcases mem_moreOf hl with ⟨_, rfl⟩ | ⟨_, rfl⟩ <;> lia
      exact lini [_,_,_,_,_] (.h 1 0 (.a (.v 0) (.v 1)) (.v 2) (.h 1 2 (.a (.v 3) (.v 4)) (.v 0) (.h 1 0 (.c 0) (.v 4) (.g 1 0 (.a (.v 3) (.a (.c 0) (.v 1))) (.v 2))))) rfl h2 hq4_ this
theorem sums_hi {lits : List Lit} {taken : List Int} {value : Int} {Q : Int → Bool} (hQ : ∀ x, Q x = false → value ∉ fit (rg (-1) 4) lits x) : ∀ (xs S : List Int) (s : Int), s ∈ xs.foldl (stepS lits taken value) S → ∃ s0 ∈ S, s ≤ s0 + ((xs.map fun x => if Q x = true then taken.count x else 0).sum : Nat)
  | [], S, s, h => ⟨s, h, by simp⟩
  | x :: xs, S, s, h => by
    refine el_EA (sums_hi hQ xs _ s h) fun s1 h1 h2 => ?_
    refine el_EAEA (mem_stepS.mp h1) fun one ho late hl hq4_ => ?_
    refine eq_l hq4_ ?_
    refine ⟨one, ho, ?_⟩
    rw [List.map_cons, List.sum_cons]
    by_cases hp : Q x = true
    · rw [if_pos hp]
      rcases mem_moreOf hl with ⟨_, rfl⟩ | ⟨_, rfl⟩ <;> lia
    · rw [if_neg hp]
      rcases mem_moreOf hl with ⟨hv, rfl⟩ | ⟨_, rfl⟩
      · exact absurd hv (hQ x (by simpa using hp))
      · exact lini [_,_,_,_] (.h 1 0 (.v 0) (.a (.v 1) (.v 2)) (.h 1 3 (.a (.v 3) (.c 0)) (.v 1) (.g 1 0 (.v 0) (.a (.v 3) (.a (.c 0) (.v 2)))))) rfl h2 hq4_
theorem tz_filter {tk : List Nat} {P : Nat → Bool} : ((tz tk).filter fun z => P z.toNat).length = (tk.filter P).length := by
  unfold tz
  rw [List.filter_map, List.length_map]
  congr 1
theorem way_false {lits : List Lit} {tk : List Nat} {v n : Int} (h : ∀ s ∈ (sortedSet (tz tk)).foldl (stepS lits (tz tk) v) [0], s ∉ fit (rg (-2) 9) lits n) : isWay lits (tz tk) v n = false := by
  unfold isWay
  rw [filter_nil (fun s hs => decide_eq_false (h s hs))]
  rfl
theorem fit_lit {lits : List Lit} {xs : List Int} {x : Int} {l : Lit} {u : Int} (hl : l ∈ lits) (hx : (l.x : Int) = x) (hu : u ∈ fit xs lits x) : fits l.s l.k u = true := by
  unfold fit at hu
  rw [List.mem_filter] at hu
  exact okL_iff.mp hu.2 l hl hx
theorem way_lower {lits : List Lit} {tk : List Nat} {v k : Int} {n : Nat} (P : Nat → Bool) (hP : ∀ x ∈ tk, P x = true → (⟨x, .eq, v⟩ : Lit) ∈ lits) (hk : (⟨n, .le, k⟩ : Lit) ∈ lits) (h : k < (tk.filter P).length) : isWay lits (tz tk) v n = false := by
  apply way_false
  intro s hs hf
  obtain ⟨s0, h0, h1⟩ := sums_lo (P := fun z => P z.toNat && decide (z ∈ tz tk)) (fun x hx u hu => by
    simp only [Bool.and_eq_true, decide_eq_true_iff] at hx
    refine el_EA (List.mem_map.mp hx.2) fun y hy hq2_ => ?_
    subst hq2_
    have := fit_lit (hP y hy (by simpa using hx.1)) rfl hu
    simpa [fits] using this) _ _ s hs
  rw [List.mem_singleton] at h0
  refine eq_l h0 ?_
  rw [wsum srt_sortedSet (fun t ht => mem_sortedSet.mpr ht)] at h1
  have e : (tz tk).filter (fun z => P z.toNat && decide (z ∈ tz tk)) = (tz tk).filter fun z => P z.toNat := by
    apply List.filter_congr
    intro z hz
    simp [hz]
  rw [e, tz_filter] at h1
  have := fit_lit hk rfl hf
  simp only [fits, decide_eq_true_iff] at this
  exact (lini [_,_,_,_] (.h 1 1 (.v 0) (.v 1) (.h 1 3 (.v 2) (.c 0) (.h 1 0 (.a (.v 2) (.v 1)) (.v 3) (.h 1 0 (.v 3) (.v 0) .f)))) rfl h h0 h1 this).elim
theorem way_upper {lits : List Lit} {tk : List Nat} {v k : Int} {n : Nat} (Q : Nat → Bool) (hQ : ∀ x ∈ tk, Q x = false → (⟨x, .ne, v⟩ : Lit) ∈ lits) (hk : (⟨n, .ge, k⟩ : Lit) ∈ lits) (h : ((tk.filter Q).length : Int) < k) : isWay lits (tz tk) v n = false := by
  apply way_false
  intro s hs hf
  obtain ⟨s0, h0, h1⟩ := sums_hi (Q := fun z => !(!Q z.toNat && decide (z ∈ tz tk))) (fun x hx hu => by
    simp only [Bool.not_eq_false', Bool.and_eq_true, decide_eq_true_iff, Bool.not_eq_true'] at hx
    refine el_EA (List.mem_map.mp hx.2) fun y hy hq2_ => ?_
    subst hq2_
    have := fit_lit (hQ y hy (by simpa using hx.1)) rfl hu
    simp [fits] at this) _ _ s hs
  rw [List.mem_singleton] at h0
  refine eq_l h0 ?_
  rw [wsum srt_sortedSet (fun t ht => mem_sortedSet.mpr ht)] at h1
  have e : (tz tk).filter (fun z => !(!Q z.toNat && decide (z ∈ tz tk))) = (tz tk).filter fun z => Q z.toNat := by
    apply List.filter_congr
    intro z hz
    simp [hz]
  rw [e, tz_filter] at h1
  have := fit_lit hk rfl hf
  simp only [fits, decide_eq_true_iff] at this
  exact (lini [_,_,_,_] (.h 1 1 (.v 0) (.v 1) (.h 1 2 (.v 2) (.c 0) (.h 1 0 (.v 3) (.a (.v 2) (.v 0)) (.h 1 0 (.v 1) (.v 3) .f)))) rfl h h0 h1 this).elim
end
section
open PySem
set_option maxRecDepth 100000
set_option backward.defeqAttrib.useBackward true
theorem walk_rng0 {k : Nat} {σ : Sg} (h : k ≤ 100000) : walkV (.rng 0 k) σ = some (((List.range k).map fun i : Nat => V.int (i : Int), none), σ) := by
  refine (walk_rg0 (by decide) ⟨by exact lini [_] (.h 1 0 (.c 0) (.v 0) (.g 1 0 (.u (.c 1000)) (.v 0))) rfl (Int.natCast_nonneg _), by exact lini [_] (.h 1 0 (.v 0) (.c 100000) (.g 1 0 (.v 0) (.c 100000))) rfl (Int.ofNat_le.mpr h)⟩).trans ?_
  simp only [Int.sub_zero, Int.toNat_natCast, Int.zero_add]
noncomputable def Bd (d : Dom) : Prop := ∀ v ∈ mem d, -2 ≤ v ∧ v < 9
theorem Bd.runs {d : Dom} (h : Bd d) (hw : WF d) : ∀ p ∈ d, p.1 ≤ p.2 ∧ -2 ≤ p.1 ∧ p.2 < 9 := by
  intro p hp
  have h1 := hw.runs p hp
  have h2 := h p.1 (mem_mem.mpr ⟨p, hp, by exact lini [_] (.g 1 0 (.v 0) (.v 0)) rfl, h1⟩)
  have h3 := h p.2 (mem_mem.mpr ⟨p, hp, h1, by exact lini [_] (.g 1 0 (.v 0) (.v 0)) rfl⟩)
  exact ⟨h1, h2.1, h3.2⟩
theorem srt_len : ∀ {l : List Int} {a b : Int}, l.Pairwise (· < ·) → (∀ v ∈ l, a ≤ v ∧ v < b) → l.length ≤ (b - a).toNat
  | [], _, _, _, _ => by simp
  | x :: r, a, b, h, hb => by
    have h' := List.pairwise_cons.mp h
    have h1 := hb x (by simp)
    have := srt_len (a := x + 1) (b := b) h'.2 (fun v hv => by have := h'.1 v hv; have := hb v (by simp [hv]); lia)
    rw [List.length_cons]; lia
theorem Bd.len {d : Dom} (h : Bd d) (hw : WF d) : (mem d).length ≤ 11 := by
  have := srt_len hw.srt h
  exact Nat.le_trans this (by decide)
theorem Bd.dlen {d : Dom} (h : Bd d) (hw : WF d) : d.length ≤ 11 := Nat.le_trans (len_le_mem hw) (h.len hw)
theorem lists_run {n : Nat} {w : Wd} (hd : ∀ d ∈ w.doms, WF d ∧ Bd d) (hD : w.doms.length ≤ 1000) : call (n + 2) (none, ("_law_lists" : Str)) [stv] w.g = some (.lst (w.doms.map fun d => zs (mem d)), w.g) := by
  have hr : ∀ x ∈ List.range w.doms.length, w.doms[x]? = some (w.doms.getD x []) ∧ WF (w.doms.getD x []) ∧ Bd (w.doms.getD x []) := by
    intro x hx
    have hx' := List.mem_range.mp hx
    rw [List.getD_eq_getElem?_getD, List.getElem?_eq_getElem hx']
    exact ⟨rfl, hd _ (List.getElem_mem hx')⟩
  have hrl : (List.range w.doms.length).length ≤ lim := by rw [List.length_range]; exact Nat.le_trans hD (by decide)
  have hml : ((List.range w.doms.length).map fun x => zs (mem (w.doms.getD x []))).length ≤ lim := by rw [List.length_map]; exact hrl
  have hb : -1000 ≤ (w.doms.length : Int) ∧ (w.doms.length : Int) ≤ 100000 := by exact ⟨lini [_] (.h 1 0 (.c 0) (.v 0) (.g 1 0 (.u (.c 1000)) (.v 0))) rfl (Int.natCast_nonneg _), lini [_] (.h 1 0 (.v 0) (.c 1000) (.g 1 0 (.v 0) (.c 100000))) rfl (Int.ofNat_le.mpr hD)⟩
  have e : ((List.range w.doms.length).map fun x => zs (mem (w.doms.getD x []))) = w.doms.map fun d => zs (mem d) := by
    apply List.ext_getElem
    · simp
    · intro i h1 h2
      simp
      rw [List.getElem?_eq_getElem (by simpa using h2)]; rfl
  apply call_ends rfl rfl rfl rfl
  apply ends_ret (v := .lst (w.doms.map fun d => zs (mem d))) (σ1 := w.g)
  · rw [ev_comp1 (σ := w.g) (σ1 := w.g) (fun i : Nat => V.int (i : Int)) (List.range w.doms.length) (fun _ => true) (fun x => zs (mem (w.doms.getD x []))) (fun ρ => ρ "store" = some stv) rfl (by simp! [↓q6, ↓q22f, ↓q25f, callN_range1, eq_self, ↓qs1, ↓qs2, ↓bz, ob_s, pu, check_t, nr, qb1, qb2, ur, List.map_cons, List.map_nil, ↓reduceIte, Bool.and_true, List.length_nil, Nat.reduceLT, decide_true, meth_st, size_run hD]) (walk_rng0 (by exact lin [_] (.h 1 0 (.v 0) (.c 1000) (.g 1 0 (.v 0) (.c 100000))) rfl hD)) rfl rfl hrl]
    · rw [show ((List.range w.doms.length).filter fun _ => true) = List.range w.doms.length by simp]
      exact (mkL_f (by rfl) hml).trans (by rw [e])
    · intro x hx ρ h1
      refine el_AA (hr x hx) fun hx1 hx2 hx3 => ?_
      generalize w.doms.getD x [] = d at *
      have hdl : d.length ≤ lim := Nat.le_trans (hx3.dlen hx2) (by decide)
      have hfl : ((d.flatMap fun p => (rg p.1 (p.2 + 1)).map V.int).length) ≤ lim := by
        have : (d.flatMap fun p => (rg p.1 (p.2 + 1)).map V.int) = (mem d).map V.int := by simp [mem, List.map_flatMap]
        rw [this, List.length_map]; exact Nat.le_trans (hx3.len hx2) (by decide)
      refine in_EAAA _ rfl h1 (by simp! [eq_self, ↓qtA1, pu]) (fun _ => ?_)
      rw [ev_comp2 (σ := w.g) (σ1 := w.g) run d V.int (fun p => rg p.1 (p.2 + 1)) (fun _ v => V.int v) (fun ρ => True) (fun p ρ => ρ "low" = some (.int p.1) ∧ ρ "high" = some (.int p.2)) rfl (by simp! [↓q6, ↓q22f, eq_self, ↓qs1, ↓qs2, ↓bz, ob_s, pu, check_t, nr, ur, oj, ↓reduceIte, Bool.and_true, List.length_cons, List.length_nil, Nat.reduceAdd, Nat.reduceLT, decide_true, String.reduceEq, h1, meth_st, dom_run hx1 hD]) (walk_dom hdl) trivial hfl]
      · refine (mkL_f (by rfl) hfl).trans ?_
        congr 2
        simp [mem, zs, List.map_flatMap]
      · intro p hp ρ _
        have := hx3.runs hx2 p hp
        have b1 : -1000 ≤ p.1 ∧ p.1 ≤ 100000 := by exact ⟨lini [_] (.h 1 0 (.u (.c 2)) (.v 0) (.g 1 0 (.u (.c 1000)) (.v 0))) rfl this.2.1, lini [_,_] (.h 1 0 (.v 0) (.v 1) (.h 1 1 (.v 1) (.c 9) (.g 1 0 (.v 0) (.c 100000)))) rfl this.1 this.2.2⟩
        have b2 : -1000 ≤ p.2 + 1 ∧ p.2 + 1 ≤ 100000 := by exact ⟨lini [_,_] (.h 1 0 (.v 0) (.v 1) (.h 1 0 (.u (.c 2)) (.v 0) (.g 1 0 (.u (.c 1000)) (.a (.v 1) (.c 1))))) rfl this.1 this.2.1, lini [_] (.h 1 1 (.v 0) (.c 9) (.g 1 0 (.a (.v 0) (.c 1)) (.c 100000))) rfl this.2.2⟩
        exact in_EEAAA _ _ rfl ⟨rfl, rfl⟩ (by simp! [↓q3, ↓q6, ↓q8, ↓q25f, callN_range2, eq_self, ↓qs1, ↓qs2, ↓bz, ob_s, pu, nr, qb1, qb2, ur, oj, binV_addi, ↓reduceIte, String.reduceEq]) (walk_rng b1 b2)
      · intro p hp v hv ρ hri_
        obtain ⟨h2, h3⟩ := hri_
        exact in_EAA _ rfl ⟨h2, h3⟩ (by simp! [↓q6, eq_self, nr, ur, ↓reduceIte])
      · exact fun _ _ _ => trivial
  · exact ⟨rfl, rfl⟩
theorem ev_comp_bind {P : Prm} {cf : CF} {sc : Scope} {ρ : Rho} {σ σ1 : Sg} {α : Type} {k : V → M V} {Q : V → Sg → Prop} {elt t iter : Expr} {scope : Scope} {pos : Pos} {x : V} (g : α → V) (xs : List α) (J : List α → List V → Sg → Prop) (I : Rho → Prop)
    (hok : (scopeOk scope && freesOk sc scope) = true)
    (hx : ev P cf sc ρ iter σ = some (x, σ1)) (hw : walkV x σ1 = some ((xs.map g, none), σ1)) (h0 : I (compRho scope ρ)) (hJ0 : J xs [] σ1) (hlen : xs.length ≤ lim)
    (hstep : ∀ a r acc ρ σ, J (a :: r) acc σ → I ρ → ∃ ρ' v σ', asgT scope t (g a) ρ σ = some (ρ', σ) ∧ I ρ' ∧ ev P cf scope ρ' elt σ = some (v, σ') ∧ J r (acc ++ [v]) σ')
    (hR : ∀ acc σ', acc.length = xs.length → J [] acc σ' → ∃ v σ2, (mkList (P.tr pos) acc >>= k) σ' = some (v, σ2) ∧ Q v σ2) :
    ∃ v σ2, (ev P cf sc ρ (.ListComp elt [⟨t, iter, [], 0⟩] scope pos) >>= k) σ = some (v, σ2) ∧ Q v σ2 := by
  refine el_EEAA (ev_comp_s (elt := elt) (pos := pos) g xs J I hok hx hw h0 hJ0 hlen hstep) fun acc σ' h1 h2 h3 => ?_
  rw [bq, h3]
  have := hR acc σ' h1 h2
  rw [bq] at this
  exact this
theorem drawn_run {n : Nat} {many less : Nat} {b : Int} {jug : List Int} {σ' : Sg} (hj : JB b jug) (hb : b ≤ 900) (hm : 0 < many) : ∃ (xs : List Int) (j : List Int), call (n + 2) (none, ("_law_drawn" : Str)) [.ref 0, .int many, .int less] (.list (jug.map .int) :: σ') = some (zs xs, .list (j.map .int) :: σ') ∧ JB (b + 4) j ∧ xs ≠ [] ∧ xs.Pairwise (· < ·) ∧ xs.length ≤ 3 ∧ ∀ z ∈ xs, -(less : Int) ≤ z ∧ z < many - less := by
  refine el_EEAA (tap_run (n := n) (many := 3) (σ' := σ') hj (by exact lini [_] (.h 1 0 (.v 0) (.c 900) (.g 1 0 (.v 0) (.c 1000))) rfl hb) (by exact lin [] (.g 1 1 (.c 0) (.c 3)) rfl)) fun t j1 e1 ht hj1 => ?_
  have e1' : call (n + 1) (none, ("_law_tap" : Str)) [.ref 0, .int 3] (.list (jug.map .int) :: σ') = some (.int t, .list (j1.map .int) :: σ') := e1
  have hb1 : -1000 ≤ (1 : Int) + t ∧ (1 : Int) + t ≤ 100000 := by exact ⟨lini [_] (.h 1 0 (.c 0) (.v 0) (.g 1 0 (.u (.c 1000)) (.a (.c 1) (.v 0)))) rfl (Int.natCast_nonneg _), lini [_] (.h 1 1 (.v 0) (.c 3) (.g 1 0 (.a (.c 1) (.v 0)) (.c 100000))) rfl (Int.ofNat_lt.mpr ht)⟩
  have hx : walkV (.rng 0 (1 + (t : Int))) (.list (j1.map .int) :: σ') = some (((List.range (1 + t)).map fun i : Nat => V.int (i : Int), none), .list (j1.map .int) :: σ') := by
    have := walk_rng0 (k := 1 + t) (σ := .list (j1.map .int) :: σ') (by exact lin [_] (.h 1 1 (.v 0) (.c 3) (.g 1 0 (.a (.c 1) (.v 0)) (.c 100000))) rfl ht)
    rw [Int.natCast_add] at this
    exact this
  suffices h : CallQ (n + 2) (none, ("_law_drawn" : Str)) [.ref 0, .int many, .int less] (.list (jug.map .int) :: σ') fun v s => ∃ (xs : List Int) (j : List Int), v = zs xs ∧ s = .list (j.map .int) :: σ' ∧ JB (b + 4) j ∧ xs ≠ [] ∧ xs.Pairwise (· < ·) ∧ xs.length ≤ 3 ∧ ∀ z ∈ xs, -(less : Int) ≤ z ∧ z < many - less by
    refine el_EEAEEAA h fun v s e xs j hq5_ hq6_ h => ?_
    subst hq5_
    subst hq6_
    exact in_EEA xs j e h
  have hmany : (0 : Int) < many := by exact lini [_] (.h 1 1 (.c 0) (.v 0) (.g 1 1 (.c 0) (.v 0))) rfl (Int.ofNat_lt.mpr hm)
  have hlt : (List.range (1 + t)).length ≤ lim := by rw [List.length_range]; exact Nat.le_trans (by exact lin [_] (.h 1 1 (.v 0) (.c 3) (.g 1 0 (.a (.c 1) (.v 0)) (.c 3))) rfl ht : _ ≤ 3) (by decide)
  apply callQ rfl rfl rfl rfl
  apply ends_ret_ex
  rw [ev_sorted rfl rfl]
  refine ev_comp_bind (x := .rng 0 (1 + (t : Int))) (σ1 := .list (j1.map .int) :: σ') (fun i : Nat => V.int (i : Int)) (List.range (1 + t))
    (fun r acc σ2 => ∃ (j : List Int) (zs0 : List Int), σ2 = .list (j.map .int) :: σ' ∧ JB (b + 1 + zs0.length) j ∧ acc = zs0.map .int ∧ zs0.length + r.length ≤ 3 ∧ ∀ z ∈ zs0, -(less : Int) ≤ z ∧ z < many - less) (fun ρ => ρ "jug" = some (.ref 0) ∧ ρ "many" = some (.int many) ∧ ρ "less" = some (.int less)) ?_ ?_ hx ?_ ⟨j1, [], rfl, by simpa using hj1, rfl, by simp; exact lin [_] (.h 1 1 (.v 0) (.c 3) (.g 1 0 (.a (.c 1) (.v 0)) (.c 3))) rfl ht, by simp⟩ hlt ?_ ?_
  · rfl
  · simp! [↓q3, ↓q6, ↓q8, ↓q25f, cfu, callN_range1, eq_self, ↓qs1, ↓qs2, ↓bz, ob_s, pu, nr, qb1, qb2, ur, oj, List.map_cons, List.map_nil, binV_addi, ↓reduceIte, String.reduceEq, e1']
  · exact ⟨rfl, rfl, rfl⟩
  · rintro i r acc ρ σ2 ⟨j, zs0, rfl, hj2, rfl, hlen, hz⟩ ⟨h1, h2, h3⟩
    simp only [List.length_cons] at hlen
    refine el_EEAA (tap_run (n := n) (many := many) (σ' := σ') hj2 (by exact lini [b,((zs0.length : Nat) : Int),((r.length : Nat) : Int)] (.h 1 0 (.v 0) (.c 900) (.h 1 0 (.a (.v 1) (.a (.v 2) (.c 1))) (.c 3) (.h 1 0 (.c 0) (.v 2) (.g 1 0 (.a (.a (.v 0) (.c 1)) (.v 1)) (.c 1000))))) rfl hb (Int.ofNat_le.mpr hlen) (Int.natCast_nonneg _)) hm) fun t2 j2 e2 ht2 hj3 => ?_
    generalize hS2 : (MObj.list (j.map .int) :: σ' : Sg) = S2 at *
    generalize hS3 : (MObj.list (j2.map .int) :: σ' : Sg) = S3 at *
    refine in_EEEAAA _ (.int (t2 - less)) S3 rfl ⟨h1, h2, h3⟩ (by simp! [↓q6, ↓q8, ↓q25f, cfu, eq_self, ↓qs1, ↓qs2, ↓bz, ob_s, pu, nr, ur, oj, binV_subi, ↓reduceIte, String.reduceEq, h1, h2, h3, e2]) (in_EEAAAA j2 (zs0 ++ [(t2 : Int) - less]) hS3.symm ?_ (by simp) (by simp; exact lin [_,_] (.h 1 0 (.a (.v 0) (.a (.v 1) (.c 1))) (.c 3) (.g 1 0 (.a (.a (.v 0) (.c 1)) (.v 1)) (.c 3))) rfl hlen) ?_)
    · rw [List.length_append]
      refine el_EEAAA hj3 fun c cells k1 k2 k3 k4 => ?_
      exact in_EEAAA c cells k1 k2 (by simp; exact lini [_,_,_] (.h 1 0 (.v 0) (.a (.a (.a (.v 1) (.c 1)) (.v 2)) (.c 1)) (.g 1 0 (.v 0) (.a (.a (.v 1) (.c 1)) (.a (.v 2) (.c 1))))) rfl k3) k4
    · intro z hz2
      rcases List.mem_append.mp hz2 with h | h
      · exact hz z h
      · rw [List.mem_singleton] at h; exact ⟨lini [_,_,_] (.h 1 3 (.v 0) (.s (.v 1) (.v 2)) (.h 1 0 (.c 0) (.v 1) (.g 1 0 (.u (.v 2)) (.v 0)))) rfl h (Int.natCast_nonneg _), lini [_,_,_,_] (.h 1 2 (.v 0) (.s (.v 1) (.v 2)) (.h 1 1 (.v 1) (.v 3) (.g 1 1 (.v 0) (.s (.v 3) (.v 2))))) rfl h (Int.ofNat_lt.mpr ht2)⟩
  · intro acc s hlen hri_
    refine el_EEAAAA hri_ fun j zs0 hq2_ hj2 hq4_ hlen2 hz => ?_
    subst hq2_
    subst hq4_
    have hl3 : zs0.length = 1 + t := by simpa using hlen
    have hl4 : zs0.length < 64 := by exact lin [_] (.h 1 0 (.a (.v 0) (.c 0)) (.c 3) (.g 1 1 (.v 0) (.c 64))) rfl hlen2
    have hl5 : (zs0.map V.int).length ≤ lim := by rw [List.length_map]; exact Nat.le_trans (by exact lin [_] (.h 1 0 (.a (.v 0) (.c 0)) (.c 3) (.g 1 0 (.v 0) (.c 3))) rfl hlen2 : _ ≤ 3) (by decide)
    refine in_EEAEEA _ _ (by rw [bq, mkL_f ?_ hl5]; exact sorted_run hl4; rfl) (sortedSet zs0) j rfl (in_AAAAA rfl ?_ ?_ srt_sortedSet (Nat.le_trans len_sortedSet (by exact lin [_] (.h 1 0 (.a (.v 0) (.c 0)) (.c 3) (.g 1 0 (.v 0) (.c 3))) rfl hlen2)) (fun z hz2 => hz z (mem_sortedSet.mp hz2)))
    · refine el_EEAAA hj2 fun c cells k1 k2 k3 k4 => ?_
      exact in_EEAAA c cells k1 k2 (by exact lini [_,_,_] (.h 1 0 (.v 0) (.a (.a (.v 1) (.c 1)) (.v 2)) (.h 1 0 (.a (.v 2) (.c 0)) (.c 3) (.g 1 0 (.v 0) (.a (.v 1) (.c 4))))) rfl k3 (Int.ofNat_le.mpr hlen2)) k4
    · intro he
      cases zs0 with
      | nil => simp at hl3; exact lin [_] (.h 1 3 (.c 0) (.a (.c 1) (.v 0)) .f) rfl hl3
      | cons z r =>
        have : z ∈ sortedSet (z :: r) := mem_sortedSet.mpr (by simp)
        rw [he] at this; simp at this
noncomputable def joinD (xs : List Int) : Dom := (xs.filter fun v => !decide (v - 1 ∈ xs)).zip (xs.filter fun v => !decide (v + 1 ∈ xs))
theorem joined_run {n : Nat} {xs : List Int} {σ : Sg} (hl : xs.length ≤ lim) (h : (xs.filter fun v => !decide (v - 1 ∈ xs)).length = (xs.filter fun v => !decide (v + 1 ∈ xs)).length) : call (n + 1) (none, ("_law_joined" : Str)) [zs xs] σ = some (dom (joinD xs), σ) := by
  have hl1 : (xs.filter fun v => !decide (v - 1 ∈ xs)).length ≤ lim := Nat.le_trans (List.length_filter_le _ _) hl
  apply call_ends rfl rfl rfl rfl
  apply ends_asg (v := zs (xs.filter fun v => !decide (v - 1 ∈ xs))) (σ1 := σ)
  · rw [ev_comp1 (σ := σ) (σ1 := σ) V.int xs (fun v => !decide (v - 1 ∈ xs)) V.int (fun ρ => ρ "numbers" = some (zs xs)) rfl rfl (walk_zs hl) rfl rfl hl]
    · simp! [mkL_f, eq_self, lst_zs]
    · rintro v _ ρ h1
      exact in_EAAA _ rfl h1 (by simp! [↓q3, ↓q6, ↓q8, eq_self, ↓qC1, ↓qt5, ↓qtA1, ↓qtA2, ↓bz, ob_s, pu, nr, ur, oj, qc11, binV_subi, ↓reduceIte, List.isEmpty_nil, Bool.and_true, String.reduceEq, h1, inV_zs, ite_tf]) (fun _ => by simp! [↓q6, eq_self, nr, ur, ↓reduceIte])
  · rfl
  · rfl
  apply ends_ret (v := dom (joinD xs)) (σ1 := σ)
  · rw [ev_tzip rfl rfl]
    simp! [↓q6, eq_self, ↓bz, ob_s, nr, qb1, qb2, ur, List.map_cons, List.map_nil, ↓reduceIte]
    rw [ev_comp1 (σ := σ) (σ1 := σ) V.int xs (fun v => !decide (v + 1 ∈ xs)) V.int (fun ρ => ρ "numbers" = some (zs xs)) rfl rfl (walk_zs hl) rfl rfl hl]
    · simp! [mkL_f, ob_s, lst_zs, zip_run h hl1]
      rfl
    · rintro v _ ρ h1
      exact in_EAAA _ rfl h1 (by simp! [↓q3, ↓q6, ↓q8, eq_self, ↓qC1, ↓qt5, ↓qtA1, ↓qtA2, ↓bz, ob_s, pu, nr, ur, oj, qc11, binV_addi, ↓reduceIte, List.isEmpty_nil, Bool.and_true, String.reduceEq, h1, inV_zs, ite_tf]) (fun _ => by simp! [↓q6, eq_self, nr, ur, ↓reduceIte])
  · exact ⟨rfl, rfl⟩
end
section
open PySem
set_option maxRecDepth 100000
set_option backward.defeqAttrib.useBackward true
noncomputable def goodJ (xs : List Int) : Bool := decide ((xs.filter fun v => !decide (v - 1 ∈ xs)).length = (xs.filter fun v => !decide (v + 1 ∈ xs)).length) && decide (mem (joinD xs) = xs) && (joinD xs).all fun p => decide (p.1 ≤ p.2)
theorem goodJ_1 : ((rg (-2) 9).all fun a => goodJ [a]) = true := by decide +kernel
theorem goodJ_2 : ((rg (-2) 9).all fun a => (rg (-2) 9).all fun b => decide (b ≤ a) || goodJ [a, b]) = true := by decide +kernel
theorem goodJ_3 : ((rg (-2) 9).all fun a => (rg (-2) 9).all fun b => decide (b ≤ a) || (rg (-2) 9).all fun c => decide (c ≤ b) || goodJ [a, b, c]) = true := by decide +kernel
theorem goodJ_all {xs : List Int} (h0 : xs ≠ []) (hs : xs.Pairwise (· < ·)) (hl : xs.length ≤ 3) (hb : ∀ z ∈ xs, -2 ≤ z ∧ z < 9) : goodJ xs = true := by
  have hm : ∀ z ∈ xs, z ∈ rg (-2) 9 := fun z hz => mem_rg.mpr (hb z hz)
  match xs, h0, hs, hl, hm with
  | [a], _, _, _, hm => exact List.all_eq_true.mp goodJ_1 a (hm a (by simp))
  | [a, b], _, hs, _, hm =>
    have h1 := List.all_eq_true.mp (List.all_eq_true.mp goodJ_2 a (hm a (by simp))) b (hm b (by simp))
    have h2 : a < b := by simpa using hs
    simpa [show ¬ b ≤ a by exact lini [_,_] (.h 1 1 (.v 0) (.v 1) (.g 1 4 (.v 1) (.v 0))) rfl h2] using h1
  | [a, b, c], _, hs, _, hm =>
    have h1 := List.all_eq_true.mp (List.all_eq_true.mp goodJ_3 a (hm a (by simp))) b (hm b (by simp))
    have h2 : (a < b ∧ a < c) ∧ b < c := by simpa using hs
    simp only [show ¬ b ≤ a by exact lini [_,_] (.h 1 1 (.v 0) (.v 1) (.g 1 4 (.v 1) (.v 0))) rfl h2.1.1, decide_false, Bool.false_or] at h1
    have h3 := List.all_eq_true.mp h1 c (hm c (by simp))
    simpa [show ¬ c ≤ b by exact lini [_,_] (.h 1 1 (.v 0) (.v 1) (.g 1 4 (.v 1) (.v 0))) rfl h2.2] using h3
  | a :: b :: c :: d :: r, _, _, hl, _ => simp at hl
theorem joinD_good {xs : List Int} (h0 : xs ≠ []) (hs : xs.Pairwise (· < ·)) (hl : xs.length ≤ 3) (hb : ∀ z ∈ xs, -2 ≤ z ∧ z < 9) :
    (xs.filter fun v => !decide (v - 1 ∈ xs)).length = (xs.filter fun v => !decide (v + 1 ∈ xs)).length ∧ mem (joinD xs) = xs ∧ WF (joinD xs) ∧ Bd (joinD xs) ∧ joinD xs ≠ [] := by
  have h := goodJ_all h0 hs hl hb
  unfold goodJ at h
  simp only [Bool.and_eq_true, decide_eq_true_iff, List.all_eq_true] at h
  obtain ⟨⟨h1, h2⟩, h3⟩ := h
  refine in_AAAA h1 h2 ⟨h3, by rw [h2]; exact hs⟩ (by unfold Bd; rw [h2]; exact hb) ?_
  intro he
  rw [he] at h2
  exact h0 h2.symm
noncomputable def cfs (tk : List Nat) (v : Int) (m : Nat) : List (Str × V) := [("number", .int (-1)), ("scope", .tup ((tk.map fun x : Nat => V.int (x : Int)) ++ [.int m])), ("strength", .str ("values" : Str)), ("taken", .tup (tk.map fun x : Nat => V.int (x : Int))), ("value", .int v), ("n", .int m)]
noncomputable abbrev ctv : V := .inst (Str.ofString "Count") 8
theorem callFd_ends {cf : CF} {d : Fd} {args : List V} {σ σ' : Sg} {v : V} (hok : fdOk d = true) (hl : (args.length == d.params.length) = true)
    (h : Ends (exs prm cf d.scope (bindAll d.params args fun _ => Option.none) d.body σ) (fun fl _ s => (match fl with | .ret u => u | _ => .none) = v ∧ s = σ')) : callFd prm cf d args σ = some (v, σ') := by
  refine el_EEEA h fun fl ρ' σ2 e q => ?_
  unfold callFd
  rw [hok, hl]
  show Option.bind _ _ = _
  show Option.bind (exs prm cf d.scope (bindAll d.params args fun _ => Option.none) d.body σ) _ = _
  rw [e]
  refine el_A q fun hq0_ hq1_ => ?_
  refine eq_r hq0_ ?_
  refine eq_r hq1_ ?_
  cases fl <;> rfl
theorem need_b {α β : Type} {a : α} {f : α → M β} {σ : Sg} : (need (some a) >>= f) σ = f a σ := rfl
theorem count_init_run {n : Nat} {w : Wd} {A : MObj} {tk : List Nat} {v : Int} {m : Nat} (ht : tk.length ≤ 100) : call (n + 2) (some (Str.ofString "Count"), ("__init__" : Str)) [ctv, ztk tk, .int v, .int m] ({ w with rest := [A, .fields []] } : Wd).g = some (.none, ({ w with rest := [A, .fields (cfs tk v m)] } : Wd).g) := by
  have hl : (tk.map fun x : Nat => V.int (x : Int)).length ≤ 100 := by simpa using ht
  show mcall prm pinit tab' (n + 2) _ _ _ = _
  unfold mcall
  rw [if_pos rfl, bq, cq, if_pos (decide_eq_true (by exact lin [_] (.g 1 1 (.c 0) (.a (.v 0) (.c 1))) rfl))]
  dsimp only
  unfold ztk cfs
  generalize (tk.map fun x : Nat => V.int (x : Int)) = ts at *
  have hl2 : ts.length < lim := Nat.lt_of_le_of_lt hl (by decide)
  have hl3 : (ts ++ [V.int m]).length ≤ lim := by rw [List.length_append]; exact Nat.le_trans (Nat.succ_le_succ hl) (by decide)
  have hp : callFd prm (fun _ _ => fail) pinit [ctv, .tup (ts ++ [.int m]), .str ("values" : Str)] ({ w with rest := [A, .fields []] } : Wd).g = some (.none, ({ w with rest := [A, .fields [("number", .int (-1)), ("scope", .tup (ts ++ [V.int m])), ("strength", .str ("values" : Str))]] } : Wd).g) := by
    apply callFd_ends rfl rfl
    rw [show pinit.params = [("self" : Str), ("scope" : Str), ("strength" : Str)] from rfl]
    apply ends_asg
    · simp! [↓q3, ↓q9, ↓bz, ob_s, pu]; rfl
    · rfl
    · simp! [↓q6, eq_self, ↓qa5, ↓bz, ob_s, nr, qb1, qb2, ur, oj, ↓reduceIte, String.reduceEq]; rfl
    apply ends_asg
    · simp! [↓q6, ↓q25f, eq_self, ↓qs1, ↓qs2, ↓bz, ob_s, pu, nr, ur, oj, ↓reduceIte, String.reduceEq, callN_tuple_t]; rfl
    · rfl
    · simp! [↓q6, eq_self, ↓qa5, ↓bz, ob_s, nr, ur, oj, ↓reduceIte, String.reduceEq]; rfl
    apply ends_asg
    · simp! [↓q6, eq_self, nr, ur, ↓reduceIte]; rfl
    · rfl
    · simp! [↓q6, eq_self, ↓qa5, ↓bz, ob_s, nr, ur, oj, ↓reduceIte, String.reduceEq]; rfl
    apply ends_nil
    exact ⟨rfl, rfl⟩
  show countInit prm pinit [.inst ("Count" : Str) 8, .lst ts, .int v, .int m] _ = _
  unfold countInit
  refine (need_b (a := (V.inst ("Count" : Str) 8, V.lst ts, V.int v, V.int m))).trans ?_
  refine (need_b (a := (("Count" : Str), 8))).trans ?_
  refine (need_b (a := ts)).trans ?_
  refine (need_b (a := (m : Int))).trans ?_
  rw [bq, cq, if_pos (by rfl)]
  dsimp only
  rw [bq, cq, if_pos (decide_eq_true hl2)]
  dsimp only
  rw [bq, hp]
  rfl
end
section
open PySem
set_option maxRecDepth 100000
set_option backward.defeqAttrib.useBackward true
structure Inv (w : Wd) (L : List (List Int)) (m T : Nat) : Prop where
  dl : w.doms.map mem = L
  wf : ∀ d ∈ w.doms, WF d ∧ Bd d ∧ d ≠ []
  len : w.doms.length = m + 1
  un : undo w.trail w.doms = w.firsts
  tx : ∀ e ∈ w.trail, e.x < w.doms.length
  nw : w.nw = .ref 6
  nn : w.nn ≤ T
  tl : w.trail.length ≤ T
structure Same (w w' : Wd) : Prop where
  jug : w'.jug = w.jug
  mkv : w'.mkv = w.mkv
  firsts : w'.firsts = w.firsts
  marks : w'.marks = w.marks
  rest : ∃ g, w'.rest = w.rest ++ g
theorem Same.rfl' (w : Wd) : Same w w := ⟨rfl, rfl, rfl, rfl, [], by simp⟩
theorem Same.trans {a b c : Wd} (h1 : Same a b) (h2 : Same b c) : Same a c := by
  obtain ⟨g1, e1⟩ := h1.rest
  obtain ⟨g2, e2⟩ := h2.rest
  exact ⟨h2.jug.trans h1.jug, h2.mkv.trans h1.mkv, h2.firsts.trans h1.firsts, h2.marks.trans h1.marks, g1 ++ g2, by rw [e2, e1, List.append_assoc]⟩
theorem Same.at {w w' : Wd} (h : Same w w') {i : Nat} {o : MObj} (e : w.rest[i]? = some o) : w'.rest[i]? = some o := by
  obtain ⟨g, hg⟩ := h.rest
  rw [hg, List.getElem?_append_left (List.getElem?_eq_some_iff.mp e).1, e]
theorem Inv.mono {w : Wd} {L : List (List Int)} {m T T' : Nat} (h : Inv w L m T) (ht : T ≤ T') : Inv w L m T' := ⟨h.dl, h.wf, h.len, h.un, h.tx, h.nw, Nat.le_trans h.nn ht, Nat.le_trans h.tl ht⟩
theorem Inv.lenL {w : Wd} {L : List (List Int)} {m T : Nat} (h : Inv w L m T) : L.length = m + 1 := by rw [← h.dl, List.length_map, h.len]
theorem Inv.at {w : Wd} {L : List (List Int)} {m T x : Nat} (h : Inv w L m T) (hx : x ≤ m) : ∃ d, w.doms[x]? = some d ∧ d ∈ w.doms ∧ mem d = L.getD x [] ∧ WF d ∧ Bd d ∧ d ≠ [] := by
  have hl : x < w.doms.length := by rw [h.len]; exact lin [_,_] (.h 1 0 (.v 0) (.v 1) (.g 1 1 (.v 0) (.a (.v 1) (.c 1)))) rfl hx
  refine in_EAAA (w.doms[x]) (List.getElem?_eq_getElem hl) (List.getElem_mem hl) ?_ (h.wf _ (List.getElem_mem hl))
  rw [← h.dl, List.getD_eq_getElem?_getD, List.getElem?_map, List.getElem?_eq_getElem hl]; rfl
theorem Inv.srt {w : Wd} {L : List (List Int)} {m T x : Nat} (h : Inv w L m T) (hx : x ≤ m) : (L.getD x []).Pairwise (· < ·) ∧ L.getD x [] ≠ [] ∧ (L.getD x []).length ≤ 11 := by
  refine el_EAAAAA (h.at hx) fun d _ _ e hw hb hn => ?_
  rw [← e]
  exact ⟨hw.2, fun h0 => hn ((mem_eq_nil hw).mp h0), hb.len hw⟩
theorem Inv.fine {w : Wd} {L : List (List Int)} {m T : Nat} (h : Inv w L m T) (hm : m ≤ 500) : Fine L := by
  refine ⟨by rw [h.lenL]; exact lin [_] (.h 1 0 (.v 0) (.c 500) (.g 1 0 (.a (.v 0) (.c 1)) (.c 1000))) rfl hm, fun z hz => ?_⟩
  rw [← h.dl] at hz
  refine el_EA (List.mem_map.mp hz) fun d hd hq2_ => ?_
  refine eq_r hq2_ ?_
  have := h.wf d hd
  exact Nat.le_trans (this.2.1.len this.1) (by decide)
noncomputable abbrev cut (L : List (List Int)) (l : Lit) : List Int := (L.getD l.x []).filter (fits l.s l.k)
noncomputable def Took (w : Wd) (L : List (List Int)) (m T : Nat) (l : Lit) (rs : Option (List Lit)) (b : Bool) (w' : Wd) : Prop := Same w w' ∧
  ((cut L l = [] ∧ b = false ∧ w'.f = true ∧ w'.cl = .tup ((rsOf rs ++ [negL l]).map lit) ∧ Inv w' L m T ∧ w'.trail = w.trail) ∨
   (cut L l ≠ [] ∧ b = true ∧ w'.f = w.f ∧ Inv w' (L.set l.x (cut L l)) m (T + 1) ∧ ∃ es, w'.trail = w.trail ++ es ∧ ((es = [] ∧ cut L l = L.getD l.x []) ∨ ∃ d, es = [⟨l.x, d, l, rs⟩])))
theorem ent_took {w w' : Wd} {L : List (List Int)} {m T : Nat} {l : Lit} {rs : Option (List Lit)} {d : Dom} {b : Bool} (I : Inv w L m T) (hx : l.x ≤ m) (hd : w.doms[l.x]? = some d) (h : Ent w l rs d b w') : Took w L m T l rs b w' := by
  refine el_EAAAAA (I.at hx) fun d' hd' hmem e hw hb hn => ?_
  cases Option.some.inj (hd.symm.trans hd')
  have hsk : mem (skD l.s l.k d) = cut L l := by rw [mem_skD hw, e]
  have hwsk : WF (skD l.s l.k d) := WF_skD hw
  obtain ⟨hlt, hget⟩ := List.getElem?_eq_some_iff.mp hd
  obtain ⟨g, ⟨h1, rfl, rfl⟩ | ⟨h1, rfl, nn, hnn, rfl⟩⟩ := h
  · refine ⟨⟨rfl, rfl, rfl, rfl, g, rfl⟩, .inl ⟨?_, rfl, rfl, rfl, ⟨I.dl, I.wf, I.len, I.un, I.tx, I.nw, I.nn, I.tl⟩, rfl⟩⟩
    rw [← hsk, h1]; rfl
  · refine ⟨⟨rfl, rfl, rfl, rfl, g, rfl⟩, .inr ⟨?_, rfl, rfl, ⟨?_, ?_, ?_, ?_, ?_, I.nw, ?_, ?_⟩, _, rfl, ?_⟩⟩
    · rw [← hsk]; exact fun h0 => h1 ((mem_eq_nil hwsk).mp h0)
    · show (w.doms.set l.x (skD l.s l.k d)).map mem = _
      rw [List.map_set, I.dl, hsk]
    · intro z hz
      rcases List.mem_or_eq_of_mem_set hz with hz | rfl
      · exact I.wf z hz
      · refine ⟨hwsk, ?_, h1⟩
        intro u hu
        rw [mem_skD hw] at hu
        exact hb u (List.mem_filter.mp hu).1
    · show (w.doms.set l.x _).length = _
      rw [List.length_set, I.len]
    · show undo (w.trail ++ _) (w.doms.set l.x _) = w.firsts
      split
      · next h2 => rw [h2, List.append_nil, ← hget, List.set_getElem_self]; exact I.un
      · rw [undo_snoc, List.set_set, ← hget, List.set_getElem_self]; exact I.un
    · intro z hz
      show z.x < (w.doms.set l.x _).length
      rw [List.length_set]
      rcases List.mem_append.mp hz with hz | hz
      · exact I.tx z hz
      · split at hz
        · exact absurd hz (by simp)
        · rw [List.mem_singleton.mp hz]; exact hlt
    · show nn ≤ T + 1
      have := I.nn
      exact lin [_,_,_] (.h 1 0 (.v 0) (.a (.v 1) (.c 1)) (.h 1 0 (.v 1) (.v 2) (.g 1 0 (.v 0) (.a (.v 2) (.c 1))))) rfl hnn this
    · show (w.trail ++ _).length ≤ T + 1
      have := I.tl
      rw [List.length_append]
      split <;> simp <;> lia
    · split
      · next h2 => exact .inl ⟨rfl, by rw [← hsk, h2, e]⟩
      · exact .inr ⟨d, rfl⟩
theorem strike_took {n : Nat} {w : Wd} {L : List (List Int)} {m T : Nat} {l : Lit} {rs : List Lit} (I : Inv w L m T) (hx : l.x ≤ m) (hm : m ≤ 500) (hT : T ≤ 500) (hrs : rs.length ≤ 1000) :
    ∃ b w', call (n + 5) (some (Str.ofString "Store"), ("strike" : Str)) [stv, lit l, .lst (rs.map lit)] w.g = some (.bool b, w'.g) ∧ Took w L m T l (some rs) b w' := by
  refine el_EAAAAA (I.at hx) fun d hd _ _ hw hb _ => ?_
  have := I.tl; have := I.nn; have := I.len; have := hb.dlen hw
  refine el_EEA (strike_run (n := n) (rs := rs) hd (by exact lin [_] (.h 1 0 (.v 0) (.c 11) (.g 1 0 (.v 0) (.c 500))) rfl this) hrs (by lia) (by lia) (by lia) I.nw) fun b w' e h => ?_
  exact in_EEA b w' e (ent_took I hx hd h)
theorem decide_took {n : Nat} {w : Wd} {L : List (List Int)} {m T : Nat} {l : Lit} (I : Inv w L m T) (hx : l.x ≤ m) (hm : m ≤ 500) (hT : T ≤ 500) :
    ∃ b w', call (n + 5) (some (Str.ofString "Store"), ("decide" : Str)) [stv, lit l] w.g = some (.bool b, w'.g) ∧ Took w L m T l none b w' := by
  refine el_EAAAAA (I.at hx) fun d hd _ _ hw hb _ => ?_
  have := I.tl; have := I.nn; have := I.len; have := hb.dlen hw
  refine el_EEA (decide_run (n := n) hd (by exact lin [_] (.h 1 0 (.v 0) (.c 11) (.g 1 0 (.v 0) (.c 500))) rfl this) (by lia) (by lia) (by lia) I.nw) fun b w' e h => ?_
  exact in_EEA b w' e (ent_took I hx hd h)
theorem Good.app {tk : List Nat} {v : Int} {m : Nat} {es es' : List En} {L L' L'' : List (List Int)} (h : Good tk v m es L L') (h' : Good tk v m es' L' L'') : Good tk v m (es ++ es') L L'' := by
  induction h with
  | nil => exact h'
  | cons h1 h2 h3 h4 h5 _ ih => exact .cons h1 h2 h3 h4 h5 (ih h')
theorem set_same {L : List (List Int)} {x : Nat} (h : x < L.length) : L.set x (L.getD x []) = L := by
  rw [List.getD_eq_getElem?_getD, List.getElem?_eq_getElem h]
  exact List.set_getElem_self h
theorem good_step {tk : List Nat} {v : Int} {m : Nat} {es : List En} {L : List (List Int)} {l : Lit} {rs : List Lit} (hrs : rs.length ≤ 100) (hh : ∀ one ∈ rs, holdsIn L one) (hw : isWay (rs ++ [negL l]) (tz tk) v m = false) (hx : l.x < L.length)
    (h : (es = [] ∧ cut L l = L.getD l.x []) ∨ ∃ d, es = [⟨l.x, d, l, some rs⟩]) : Good tk v m es L (L.set l.x (cut L l)) := by
  rcases h with ⟨rfl, h⟩ | ⟨d, rfl⟩
  · rw [h, set_same hx]; exact .nil
  · refine .cons rfl hrs hh hw hx ?_
    show Good tk v m [] (L.set l.x (fit (L.getD l.x []) [l] l.x)) _
    rw [fit_one]; exact .nil
end
section
open PySem
set_option maxRecDepth 100000
set_option backward.defeqAttrib.useBackward true
noncomputable def heldN (L : List (List Int)) (tk : List Nat) (v : Int) : List Nat := tk.filter fun x => decide (L.getD x [] = [v])
noncomputable def barN (L : List (List Int)) (tk : List Nat) (v : Int) : List Nat := tk.filter fun x => !decide (v ∈ L.getD x [])
noncomputable def openN (L : List (List Int)) (tk : List Nat) (v : Int) : List Nat := tk.filter fun x => decide (v ∈ L.getD x []) && !decide (L.getD x [] = [v])
noncomputable def lowR (L : List (List Int)) (tk : List Nat) (v : Int) : List Lit := (heldN L tk v).map fun x => ⟨x, .eq, v⟩
noncomputable def highR (L : List (List Int)) (tk : List Nat) (v : Int) : List Lit := (barN L tk v).map fun x => ⟨x, .ne, v⟩
section
variable {L : List (List Int)} {tk : List Nat} {v : Int} {m : Nat}
theorem part_len {α : Type} (p : α → Bool) (l : List α) : (l.filter p).length + (l.filter fun x => !p x).length = l.length := by
  induction l with
  | nil => rfl
  | cons a r ih => cases h : p a <;> simp [h] <;> lia
theorem able_bar : ableN L tk v + (barN L tk v).length = tk.length := part_len (fun x => decide (v ∈ L.getD x [])) tk
theorem sure_len : (heldN L tk v).length = sureN L tk v := rfl
theorem lowR_len : (lowR L tk v).length ≤ tk.length := by unfold lowR heldN; rw [List.length_map]; exact List.length_filter_le _ _
theorem highR_len : (highR L tk v).length ≤ tk.length := by unfold highR barN; rw [List.length_map]; exact List.length_filter_le _ _
theorem flt_more {tk : List Nat} {p q : Nat → Bool} {x : Nat} (hx : x ∈ tk) (hpq : ∀ y, p y = true → q y = true) (h1 : p x = false) (h2 : q x = true) : (tk.filter p).length < (tk.filter q).length := by
  induction tk with
  | nil => simp at hx
  | cons a r ih =>
    have hle : (r.filter p).length ≤ (r.filter q).length := by
      clear ih hx
      induction r with
      | nil => exact Nat.le_refl 0
      | cons b r ih =>
        cases hb : p b
        · cases hq : q b <;> simp [hb, hq] <;> lia
        · simp [hb, hpq b hb]; exact ih
    rcases List.mem_cons.mp hx with rfl | hx
    · simp [h1, h2]; exact lin [_,_] (.h 1 0 (.v 0) (.v 1) (.g 1 1 (.v 0) (.a (.v 1) (.c 1)))) rfl hle
    · have := ih hx
      cases hb : p a
      · cases hq : q a <;> simp [hb, hq] <;> lia
      · simp [hb, hpq a hb]; exact this
theorem way_a : isWay (lowR L tk v ++ [negL ⟨m, .ge, sureN L tk v⟩]) (tz tk) v m = false := by
  refine way_lower (fun x => decide (L.getD x [] = [v])) (k := (sureN L tk v : Int) - 1) ?_ (by simp [negL]) ?_
  · intro x hx h
    exact List.mem_append_left _ (List.mem_map.mpr ⟨x, List.mem_filter.mpr ⟨hx, h⟩, rfl⟩)
  · show (sureN L tk v : Int) - 1 < ((tk.filter _).length : Nat)
    have : (tk.filter fun x => decide (L.getD x [] = [v])).length = sureN L tk v := rfl
    exact lini [_,_] (.h 1 3 (.v 0) (.v 1) (.g 1 1 (.s (.v 1) (.c 1)) (.v 0))) rfl (congrArg Int.ofNat this)
theorem way_b : isWay (highR L tk v ++ [negL ⟨m, .le, ableN L tk v⟩]) (tz tk) v m = false := by
  refine way_upper (fun x => decide (v ∈ L.getD x [])) (k := (ableN L tk v : Int) + 1) ?_ (by simp [negL]) ?_
  · intro x hx h
    exact List.mem_append_left _ (List.mem_map.mpr ⟨x, List.mem_filter.mpr ⟨hx, by rw [h]; rfl⟩, rfl⟩)
  · have : (tk.filter fun x => decide (v ∈ L.getD x [])).length = ableN L tk v := rfl
    exact lini [_,_] (.h 1 2 (.v 0) (.v 1) (.g 1 1 (.v 0) (.a (.v 1) (.c 1)))) rfl (congrArg Int.ofNat this)
theorem way_c {x : Nat} (hx : x ∈ openN L tk v) : isWay ((lowR L tk v ++ [⟨m, .le, sureN L tk v⟩]) ++ [negL ⟨x, .ne, v⟩]) (tz tk) v m = false := by
  obtain ⟨hx1, hx2⟩ := List.mem_filter.mp hx
  simp only [Bool.and_eq_true, Bool.not_eq_true', decide_eq_true_iff, decide_eq_false_iff_not] at hx2
  refine way_lower (fun y => decide (L.getD y [] = [v]) || decide (y = x)) (k := (sureN L tk v : Int)) ?_ (by simp) ?_
  · intro y hy h
    by_cases hyx : y = x
    · subst hyx; simp [negL]
    · refine List.mem_append_left _ (List.mem_append_left _ (List.mem_map.mpr ⟨y, List.mem_filter.mpr ⟨hy, ?_⟩, rfl⟩))
      simpa [hyx] using h
  · have := flt_more (p := fun y => decide (L.getD y [] = [v])) (q := fun y => decide (L.getD y [] = [v]) || decide (y = x)) hx1 (fun y h => by simp only [h, Bool.true_or]) (decide_eq_false hx2.2) (by simp)
    have e : (tk.filter fun x => decide (L.getD x [] = [v])).length = sureN L tk v := rfl
    exact lini [_,_,_] (.h 1 1 (.v 0) (.v 1) (.h 1 3 (.v 0) (.v 2) (.g 1 1 (.v 2) (.v 1)))) rfl (Int.ofNat_lt.mpr this) (congrArg Int.ofNat e)
theorem way_d {x : Nat} (hx : x ∈ openN L tk v) : isWay ((highR L tk v ++ [⟨m, .ge, ableN L tk v⟩]) ++ [negL ⟨x, .eq, v⟩]) (tz tk) v m = false := by
  obtain ⟨hx1, hx2⟩ := List.mem_filter.mp hx
  simp only [Bool.and_eq_true, Bool.not_eq_true', decide_eq_true_iff, decide_eq_false_iff_not] at hx2
  refine way_upper (fun y => decide (v ∈ L.getD y []) && !decide (y = x)) (k := (ableN L tk v : Int)) ?_ (by simp) ?_
  · intro y hy h
    by_cases hyx : y = x
    · subst hyx; simp [negL]
    · refine List.mem_append_left _ (List.mem_append_left _ (List.mem_map.mpr ⟨y, List.mem_filter.mpr ⟨hy, ?_⟩, rfl⟩))
      have : decide (v ∈ L.getD y []) = false := by simpa [hyx] using h
      rw [this]; rfl
  · have := flt_more (q := fun y => decide (v ∈ L.getD y [])) (p := fun y => decide (v ∈ L.getD y []) && !decide (y = x)) hx1 (fun y h => (Bool.and_eq_true _ _ ▸ h).1) (by simp) (decide_eq_true hx2.1)
    have e : (tk.filter fun x => decide (v ∈ L.getD x [])).length = ableN L tk v := rfl
    exact lini [_,_,_] (.h 1 1 (.v 0) (.v 1) (.h 1 2 (.v 1) (.v 2) (.g 1 1 (.v 0) (.v 2)))) rfl (Int.ofNat_lt.mpr this) (congrArg Int.ofNat e)
theorem hold_low {L1 : List (List Int)} (hl : ∀ x ∈ tk, x < L1.length) (h : ∀ y ∈ heldN L tk v, L1.getD y [] = L.getD y []) : ∀ one ∈ lowR L tk v, holdsIn L1 one := by
  intro one ho
  refine el_EA (List.mem_map.mp ho) fun x hx hq2_ => ?_
  refine eq_r hq2_ ?_
  obtain ⟨h1, h2⟩ := List.mem_filter.mp hx
  refine holds_iff.mpr ⟨hl x h1, fun u hu => ?_⟩
  rw [h x hx, of_decide_eq_true h2] at hu
  exact decide_eq_true (List.mem_singleton.mp hu)
theorem hold_high {L1 : List (List Int)} (hl : ∀ x ∈ tk, x < L1.length) (h : ∀ y ∈ barN L tk v, L1.getD y [] = L.getD y []) : ∀ one ∈ highR L tk v, holdsIn L1 one := by
  intro one ho
  refine el_EA (List.mem_map.mp ho) fun x hx hq2_ => ?_
  refine eq_r hq2_ ?_
  obtain ⟨h1, h2⟩ := List.mem_filter.mp hx
  refine holds_iff.mpr ⟨hl x h1, fun u hu => ?_⟩
  simp only [Bool.not_eq_true', decide_eq_false_iff_not] at h2
  have hu' : u ∈ L.getD x [] := (h x hx) ▸ hu
  have : ¬ u = v := fun e => h2 (e ▸ hu')
  simp [fits, this]
theorem once_ne (h0 : numF L tk v m ≠ []) (h1 : (numF L tk v m).getLastD 0 = (sureN L tk v : Int)) : onceF L tk v m = (openN L tk v).foldl (fun F x => F.set x ((L.getD x []).filter (fits .ne v))) (L.set m (numF L tk v m)) := by
  unfold onceF openN
  rw [if_neg h0, List.foldl_filter]
  congr 1
  funext F x
  unfold stepO
  by_cases c : v ∈ L.getD x [] ∧ L.getD x [] ≠ [v]
  · rw [if_pos c, if_pos h1, if_pos (by rw [decide_eq_true c.1, decide_eq_false c.2]; rfl)]
    rfl
  · rw [if_neg c, if_neg]
    simp only [Bool.and_eq_true, Bool.not_eq_true', decide_eq_true_iff, decide_eq_false_iff_not]
    exact c
theorem once_id (h0 : numF L tk v m ≠ []) (h1 : (numF L tk v m).getLastD 0 ≠ (sureN L tk v : Int)) (h2 : (numF L tk v m).headD 0 ≠ (ableN L tk v : Int)) : onceF L tk v m = L.set m (numF L tk v m) := by
  unfold onceF
  rw [if_neg h0]
  have : stepO L tk v m = fun F _ => F := by
    funext F x
    unfold stepO
    rw [if_neg h1, if_neg h2, ite_self]
  rw [this]
  generalize L.set m _ = G
  clear this h0 h1 h2
  induction tk with
  | nil => rfl
  | cons a r ih => exact ih
end
theorem flt_eq_one {l : List Int} {v : Int} (hs : l.Pairwise (· < ·)) (hv : v ∈ l) : l.filter (fits .eq v) = [v] := by
  refine srt_ext (flt_srt hs) (by simp) fun x => ?_
  rw [List.mem_filter]
  simp only [fits, decide_eq_true_iff, List.mem_singleton]
  exact ⟨fun h => h.2, fun h => ⟨h ▸ hv, h⟩⟩
theorem flt_ne_some {l : List Int} {v : Int} (hs : l.Pairwise (· < ·)) (hv : v ∈ l) (h : l ≠ [v]) : l.filter (fits .ne v) ≠ [] := by
  intro h0
  refine h (srt_ext hs (by simp) fun x => ?_)
  rw [List.mem_singleton]
  refine ⟨fun hx => ?_, fun h => h ▸ hv⟩
  have := List.filter_eq_nil_iff.mp h0 x hx
  simpa [fits] using this
section
variable {L : List (List Int)} {tk : List Nat} {v : Int} {m : Nat}
theorem once_eq (hs : ∀ x ∈ tk, (L.getD x []).Pairwise (· < ·)) (h0 : numF L tk v m ≠ []) (h1 : (numF L tk v m).getLastD 0 ≠ (sureN L tk v : Int)) (h2 : (numF L tk v m).headD 0 = (ableN L tk v : Int)) : onceF L tk v m = (openN L tk v).foldl (fun F x => F.set x ((L.getD x []).filter (fits .eq v))) (L.set m (numF L tk v m)) := by
  have e : (openN L tk v).foldl (fun F x => F.set x ((L.getD x []).filter (fits .eq v))) (L.set m (numF L tk v m)) = (openN L tk v).foldl (fun F x => F.set x [v]) (L.set m (numF L tk v m)) := by
    generalize L.set m (numF L tk v m) = G
    have : ∀ x ∈ openN L tk v, (L.getD x []).filter (fits .eq v) = [v] := by
      intro x hx
      obtain ⟨a, b⟩ := List.mem_filter.mp hx
      simp only [Bool.and_eq_true, decide_eq_true_iff] at b
      exact flt_eq_one (hs x a) b.1
    generalize openN L tk v = xs at this
    induction xs generalizing G with
    | nil => rfl
    | cons a r ih =>
      rw [List.foldl_cons, List.foldl_cons, this a (by simp)]
      exact ih _ fun x hx => this x (by simp [hx])
  rw [e]
  unfold onceF openN
  rw [if_neg h0, List.foldl_filter]
  congr 1
  funext F x
  unfold stepO
  by_cases c : v ∈ L.getD x [] ∧ L.getD x [] ≠ [v]
  · rw [if_pos c, if_neg h1, if_pos h2, if_pos (by rw [decide_eq_true c.1, decide_eq_false c.2]; rfl)]
  · rw [if_neg c, if_neg]
    simp only [Bool.and_eq_true, Bool.not_eq_true', decide_eq_true_iff, decide_eq_false_iff_not]
    exact c
end
structure St (tk : List Nat) (v : Int) (m : Nat) (w : Wd) (L : List (List Int)) (w1 : Wd) (L1 : List (List Int)) (T : Nat) (es : List En) : Prop where
  same : Same w w1
  nf : w1.f = false
  tr : w1.trail = w.trail ++ es
  good : Good tk v m es L L1
  inv : Inv w1 L1 m T
structure Fell (tk : List Nat) (v : Int) (m : Nat) (w : Wd) (L : List (List Int)) (w1 : Wd) (L1 : List (List Int)) (T : Nat) (es : List En) (cl : List Lit) : Prop where
  same : Same w w1
  nf : w1.f = true
  tr : w1.trail = w.trail ++ es
  good : Good tk v m es L L1
  inv : Inv w1 L1 m T
  cl : w1.cl = .tup (cl.map lit)
theorem st_strike {n : Nat} {tk : List Nat} {v : Int} {m : Nat} {w w1 : Wd} {L L1 : List (List Int)} {T : Nat} {es : List En} {l : Lit} {rs : List Lit} (S : St tk v m w L w1 L1 T es) (hx : l.x ≤ m) (hm : m ≤ 500) (hT : T ≤ 500) (hrs : rs.length ≤ 100)
    (hh : ∀ one ∈ rs, holdsIn L1 one) (hw : isWay (rs ++ [negL l]) (tz tk) v m = false) :
    ∃ b w2, call (n + 5) (some (Str.ofString "Store"), ("strike" : Str)) [stv, lit l, .lst (rs.map lit)] w1.g = some (.bool b, w2.g) ∧
      ((cut L1 l = [] ∧ b = false ∧ Fell tk v m w L w2 L1 T es (rs ++ [negL l])) ∨ (cut L1 l ≠ [] ∧ b = true ∧ ∃ es', St tk v m w L w2 (L1.set l.x (cut L1 l)) (T + 1) es')) := by
  refine el_EEAA (strike_took (n := n) (rs := rs) S.inv hx hm hT (by exact lin [_] (.h 1 0 (.v 0) (.c 100) (.g 1 0 (.v 0) (.c 1000))) rfl hrs)) fun b w2 e hs h => ?_
  refine in_EEA b w2 e ?_
  rcases h with ⟨h1, h2, h3, h4, h5, h6⟩ | ⟨h1, h2, h3, h4, es2, h5, h6⟩
  · exact .inl ⟨h1, h2, S.same.trans hs, h3, h6.trans S.tr, S.good, h5, h4⟩
  · refine .inr ⟨h1, h2, es ++ es2, S.same.trans hs, h3.trans S.nf, ?_, S.good.app (good_step hrs hh hw (by rw [S.inv.lenL]; exact lin [_,_] (.h 1 0 (.v 0) (.v 1) (.g 1 1 (.v 0) (.a (.v 1) (.c 1)))) rfl hx) h6), h4⟩
    rw [h5, S.tr, List.append_assoc]
end
section
open PySem
set_option maxRecDepth 100000
set_option backward.defeqAttrib.useBackward true
section
variable {n : Nat} {w : Wd} {L : List (List Int)} {m T : Nat}
theorem Inv.small {x : Nat} (I : Inv w L m T) (hx : x ≤ m) (hm : m ≤ 500) : ∃ d, w.doms[x]? = some d ∧ mem d = L.getD x [] ∧ WF d ∧ d ≠ [] ∧ d.length ≤ 11 ∧ w.doms.length ≤ 1000 := by
  refine el_EAAAAA (I.at hx) fun d hd _ e hw hb hn => ?_
  exact in_EAAAAA d hd e hw hn (hb.dlen hw) (by rw [I.len]; exact lin [_] (.h 1 0 (.v 0) (.c 500) (.g 1 0 (.a (.v 0) (.c 1)) (.c 1000))) rfl hm)
theorem high_inv {x : Nat} (I : Inv w L m T) (hx : x ≤ m) (hm : m ≤ 500) : call (n + 2) (some (Str.ofString "Store"), ("high" : Str)) [stv, .int x] w.g = some (.int ((L.getD x []).getLastD 0), w.g) := by
  refine el_EAAAAA (I.small hx hm) fun d hd e hw hn h1 h2 => ?_
  rw [← e]
  obtain ⟨r, p, rfl⟩ : ∃ r p, d = r ++ [p] := ⟨d.dropLast, d.getLast hn, (List.dropLast_concat_getLast hn).symm⟩
  rw [last_mem hw]
  rw [List.length_append] at h1
  exact high_run hd (by exact lin [_] (.h 1 0 (.a (.v 0) (.a (.c 0) (.c 1))) (.c 11) (.g 1 1 (.v 0) (.c 500))) rfl h1) h2
theorem low_inv {x : Nat} (I : Inv w L m T) (hx : x ≤ m) (hm : m ≤ 500) : call (n + 2) (some (Str.ofString "Store"), ("low" : Str)) [stv, .int x] w.g = some (.int ((L.getD x []).headD 0), w.g) := by
  refine el_EAAAAA (I.small hx hm) fun d hd e hw hn h1 h2 => ?_
  rw [← e]
  obtain ⟨p, r, rfl⟩ : ∃ p r, d = p :: r := by cases d with | nil => exact absurd rfl hn | cons p r => exact ⟨p, r, rfl⟩
  rw [head_mem hw]
  rw [List.length_cons] at h1
  exact low_run hd (by exact lin [_] (.h 1 0 (.a (.v 0) (.c 1)) (.c 11) (.g 1 1 (.v 0) (.c 500))) rfl h1) h2
theorem has_inv {x : Nat} {v : Int} (I : Inv w L m T) (hx : x ≤ m) (hm : m ≤ 500) : call (n + 3) (some (Str.ofString "Store"), ("has" : Str)) [stv, .int x, .int v] w.g = some (.bool (decide (v ∈ L.getD x [])), w.g) := by
  refine el_EAAAAA (I.small hx hm) fun d hd e hw hn h1 h2 => ?_
  rw [← e, has_m_run hd (by exact lin [_] (.h 1 0 (.v 0) (.c 11) (.g 1 1 (.v 0) (.c 500))) rfl h1) h2]
  congr 3
  exact decide_eq_decide.mpr (nextF_mem hw)
theorem fix_inv {x : Nat} {v : Int} (I : Inv w L m T) (hx : x ≤ m) (hm : m ≤ 500) :
    (call (n + 1) (some (Str.ofString "Store"), ("is_fixed" : Str)) [stv, .int x] w.g = some (.bool false, w.g) ∧ L.getD x [] ≠ [v]) ∨
    ∃ u, call (n + 1) (some (Str.ofString "Store"), ("is_fixed" : Str)) [stv, .int x] w.g = some (.bool true, w.g) ∧ call (n + 1) (some (Str.ofString "Store"), ("value" : Str)) [stv, .int x] w.g = some (.int u, w.g) ∧ (u = v ↔ L.getD x [] = [v]) := by
  refine el_EAAAAA (I.small hx hm) fun d hd e hw hn h1 h2 => ?_
  have hf := fixed_run (n := n) hd (by exact lin [_] (.h 1 0 (.v 0) (.c 11) (.g 1 1 (.v 0) (.c 500))) rfl h1) h2
  rw [← e]
  cases hc : fixF d
  · refine .inl ⟨by rw [hf, hc], fun h => ?_⟩
    rw [(mem_single hw).mp h] at hc
    exact of_decide_eq_false hc rfl
  · cases d with
    | nil => exact (Bool.false_ne_true hc).elim
    | cons p r =>
      cases r with
      | cons _ _ => exact (Bool.false_ne_true hc).elim
      | nil =>
      have hp : p.1 = p.2 := of_decide_eq_true hc
      refine .inr ⟨p.1, by rw [hf, hc], value_run hd (by simp) h2, ?_⟩
      rw [mem_single hw]
      constructor
      · intro h
        rw [← h]
        exact congrArg (fun z => [z]) (Prod.ext rfl hp.symm)
      · intro h
        exact congrArg (fun z : List (Int × Int) => (z.headD (0, 0)).1) h
end
section
variable {σ : Sg} {tk : List Nat} {v : Int} {m : Nat}
theorem ct_taken (h : σ[8]? = some (.fields (cfs tk v m))) : attrV ctv (Str.ofString "taken") σ = some (.tup (tk.map fun x : Nat => V.int (x : Int)), σ) := by
  have hg : getObj 8 σ = some (.fields (cfs tk v m), σ) := by rw [getObj_run, h]
  unfold attrV
  dsimp only
  rw [bq, cq, if_pos (by rfl)]
  dsimp only
  rw [bq, hg]
  rfl
theorem ct_value (h : σ[8]? = some (.fields (cfs tk v m))) : attrV ctv (Str.ofString "value") σ = some (.int v, σ) := by
  have hg : getObj 8 σ = some (.fields (cfs tk v m), σ) := by rw [getObj_run, h]
  unfold attrV
  dsimp only
  rw [bq, cq, if_pos (by rfl)]
  dsimp only
  rw [bq, hg]
  rfl
theorem ct_n (h : σ[8]? = some (.fields (cfs tk v m))) : attrV ctv (Str.ofString "n") σ = some (.int m, σ) := by
  have hg : getObj 8 σ = some (.fields (cfs tk v m), σ) := by rw [getObj_run, h]
  unfold attrV
  dsimp only
  rw [bq, cq, if_pos (by rfl)]
  dsimp only
  rw [bq, hg]
  rfl
end
theorem mem_tz {l : List Nat} {x : Nat} : (x : Int) ∈ tz l ↔ x ∈ l := by
  unfold tz
  rw [List.mem_map]
  exact ⟨fun ⟨a, h, e⟩ => Int.ofNat_inj.mp e ▸ h, fun h => ⟨x, h, rfl⟩⟩
theorem fits_neg {l : Lit} {u : Int} : fits (negL l).s (negL l).k u = !fits l.s l.k u := by
  obtain ⟨x, s, k⟩ := l
  cases s <;> simp only [negL, fits, Bool.not_not]
  · rw [← decide_not]; exact decide_eq_decide.mpr (by lia)
  · rw [← decide_not]; exact decide_eq_decide.mpr (by lia)
  · rfl
  · rfl
theorem hold_neg {L : List (List Int)} {l : Lit} (hx : l.x < L.length) (h : cut L l = []) : holdsIn L (negL l) := by
  have e : (negL l).x = l.x := by obtain ⟨x, s, k⟩ := l; cases s <;> rfl
  refine holds_iff.mpr ⟨e.symm ▸ hx, fun u hu => ?_⟩
  rw [e] at hu
  rw [fits_neg]
  have := List.filter_eq_nil_iff.mp h u hu
  simpa using this
theorem St.mono {tk : List Nat} {v : Int} {m : Nat} {w w1 : Wd} {L L1 : List (List Int)} {T T' : Nat} {es : List En} (S : St tk v m w L w1 L1 T es) (h : T ≤ T') : St tk v m w L w1 L1 T' es := ⟨S.same, S.nf, S.tr, S.good, S.inv.mono h⟩
theorem Fell.mono {tk : List Nat} {v : Int} {m : Nat} {w w1 : Wd} {L L1 : List (List Int)} {T T' : Nat} {es : List En} {cl : List Lit} (S : Fell tk v m w L w1 L1 T es cl) (h : T ≤ T') : Fell tk v m w L w1 L1 T' es cl := ⟨S.same, S.nf, S.tr, S.good, S.inv.mono h, S.cl⟩
noncomputable def soFd : Fd := (tab' (some (Str.ofString "Count"), ("strike_once" : Str))).getD default
theorem loop_run {n : Nat} {tk : List Nat} {v : Int} {m : Nat} {w w2 : Wd} {L F0 : List (List Int)} {T : Nat} {es : List En} (s : Sn) (R : List Lit) {ρ : Rho} {Q : Fl → Rho → Sg → Prop} (S : St tk v m w L w2 F0 T es) (hm : m ≤ 400) (hT : T ≤ 450) (htk : tk.length ≤ 5) (hxm : ∀ x ∈ tk, x < m)
    (hne : ∀ x ∈ openN L tk v, (L.getD x []).filter (fits s v) ≠ []) (hF0 : ∀ x ∈ tk, F0.getD x [] = L.getD x []) (hR : R.length ≤ 100)
    (hold : ∀ F : List (List Int), F.length = m + 1 → (∀ y, F.getD y [] = F0.getD y [] ∨ y ∈ openN L tk v) → ∀ one ∈ R, holdsIn F one) (hway : ∀ x ∈ openN L tk v, isWay (R ++ [negL ⟨x, s, v⟩]) (tz tk) v m = false)
    (h8 : w.g[8]? = some (.fields (cfs tk v m))) (r1 : ρ "opened" = some (ztk (openN L tk v))) (r2 : ρ "self" = some ctv) (r3 : ρ "store" = some stv) (r4 : ρ "sign" = some (sgn s)) (r5 : ρ "reasons" = some (.lst (R.map lit)))
    (hQ : ∀ ρ w3 es3, St tk v m w L w3 ((openN L tk v).foldl (fun F x => F.set x ((L.getD x []).filter (fits s v))) F0) (T + 5) es3 → Q (.ret (.bool true)) ρ w3.g) :
    Ends (exs prm (call (n + 5)) soFd.scope ρ (soFd.body.drop 8) w2.g) Q := by
  have hol : (openN L tk v).length ≤ 5 := Nat.le_trans (List.length_filter_le _ _) htk
  have hot : ∀ x ∈ openN L tk v, x ∈ tk := fun x hx => (List.mem_filter.mp hx).1
  apply ends_for (fun x : Nat => V.int (x : Int)) (openN L tk v) (fun r ρ σ' => ρ "self" = some ctv ∧ ρ "store" = some stv ∧ ρ "sign" = some (sgn s) ∧ ρ "reasons" = some (.lst (R.map lit)) ∧ ∃ w3 F es3 k, σ' = w3.g ∧ St tk v m w L w3 F (T + k) es3 ∧ k + r.length ≤ 5 ∧ (∀ x ∈ r, x ∈ openN L tk v) ∧ r.foldl (fun F x => F.set x ((L.getD x []).filter (fits s v))) F = (openN L tk v).foldl (fun F x => F.set x ((L.getD x []).filter (fits s v))) F0 ∧ ∀ y, F.getD y [] = F0.getD y [] ∨ (y ∈ openN L tk v ∧ F.getD y [] = (L.getD y []).filter (fits s v)))
  · simp! [↓q6, nr, r1]; rfl
  · exact walk_tk (Nat.le_trans hol (by decide))
  · exact in_AAAAEE r2 r3 r4 r5 w2 F0 (in_EEAAAAA es 0 rfl S (by exact lin [_] (.h 1 0 (.v 0) (.c 5) (.g 1 0 (.a (.c 0) (.v 0)) (.c 5))) rfl hol) (fun _ h => h) rfl (fun _ => .inl rfl))
  · intro x r ρ σ' hri_
    refine el_AAAAEE hri_ fun g1 g2 g3 g4 w3 F hr1_ => ?_
    refine el_EEAAAAA hr1_ fun es3 k hq8_ S3 hk hxr hfold hF => ?_
    refine eq_l hq8_ ?_
    have hxo := hxr x (by simp)
    have hxt := hot x hxo
    have hx : x ≤ m := Nat.le_of_lt (hxm x hxt)
    have hk' : k + (r.length + 1) ≤ 5 := hk
    have hcut : cut F ⟨x, s, v⟩ = (L.getD x []).filter (fits s v) := by
      show (F.getD x []).filter (fits s v) = _
      rcases hF x with h | ⟨-, h⟩
      · rw [h, hF0 x hxt]
      · rw [h, List.filter_filter]
        congr 1
        funext u
        exact Bool.and_self _
    obtain ⟨b, w4, e, h⟩ := st_strike (n := n) (l := ⟨x, s, v⟩) S3 hx (by exact lin [_] (.h 1 0 (.v 0) (.c 400) (.g 1 0 (.v 0) (.c 500))) rfl hm) (by exact lin [_,_,_] (.h 1 0 (.v 0) (.c 450) (.h 1 0 (.a (.v 1) (.a (.v 2) (.c 1))) (.c 5) (.g 1 0 (.a (.v 0) (.v 1)) (.c 500)))) rfl hT hk) hR (hold F S3.inv.lenL fun y => (hF y).imp id And.left) (hway x hxo)
    rw [hcut] at h
    rcases h with ⟨h1, -, -⟩ | ⟨h1, rfl, es4, S4⟩
    · exact absurd h1 (hne x hxo)
    have h83 : w3.g[8]? = some (.fields (cfs tk v m)) := S3.same.at h8
    have e' : call (n + 5) (some (Str.ofString "Store"), ("strike" : Str)) [stv, .tup [.int x, sgn s, .int v], .lst (R.map lit)] w3.g = some (.bool true, w4.g) := e
    refine in_EEA _ _ rfl ?_
    apply eif (σ1 := w4.g)
    · simp! [↓q6, ↓q14, ↓q17f, ↓q22f, lim_3, eq_self, ↓qs1, ↓qs2, ↓qt1, ↓qt7, ↓bz, ob_s, pu, check_t, nr, ur, oj, qtr, ↓reduceIte, Bool.and_true, Bool.not_true, List.length_cons, List.length_nil, Nat.zero_add, Nat.reduceAdd, Nat.reduceLT, decide_true, String.reduceEq, g1, g2, g3, g4, meth_st, ct_value h83, e']
    apply ends_nil
    refine in_AAAAAE rfl (by exact g1) (by exact g2) (by exact g3) (by exact g4) w4 (in_EEEAAA _ es4 (k + 1) rfl S4 (by exact lin [_,_] (.h 1 0 (.a (.v 0) (.a (.v 1) (.c 1))) (.c 5) (.g 1 0 (.a (.a (.v 0) (.c 1)) (.v 1)) (.c 5))) rfl hk) (in_AA (fun y hy => hxr y (by simp [hy])) hfold (fun y => ?_)))
    by_cases hy : y = x
    · subst hy
      refine .inr ⟨hxo, ?_⟩
      have : y < F.length := by rw [S3.inv.lenL]; exact lin [_,_] (.h 1 0 (.v 0) (.v 1) (.g 1 1 (.v 0) (.a (.v 1) (.c 1)))) rfl hx
      simp [List.getD_eq_getElem?_getD, this]
    · have : (F.set x ((L.getD x []).filter (fits s v))).getD y [] = F.getD y [] := by
        simp [List.getD_eq_getElem?_getD, List.getElem?_set_ne (Ne.symm hy)]
      show (F.set x ((L.getD x []).filter (fits s v))).getD y [] = _ ∨ _ ∧ (F.set x ((L.getD x []).filter (fits s v))).getD y [] = _
      rw [this]
      exact hF y
  · intro ρ σ' hri_
    refine el_AAAAEE hri_ fun g1 g2 g3 g4 w3 F hr1_ => ?_
    refine el_EEAAAAA hr1_ fun es3 k hq8_ S3 hk _ hfold _ => ?_
    refine eq_l hq8_ ?_
    apply ends_ret (v := .bool true) (σ1 := w3.g)
    · simp! [↓q2, eq_self, pu]
    · have hk' : k + 0 ≤ 5 := hk
      have hfold' : F = _ := hfold
      exact hQ _ _ es3 ((hfold' ▸ S3).mono (by exact lin [_,_] (.h 1 0 (.a (.v 0) (.c 0)) (.c 5) (.g 1 0 (.a (.v 1) (.v 0)) (.a (.v 1) (.c 5)))) rfl hk))
theorem srt_head : ∀ {l : List Int} {u : Int}, l.Pairwise (· < ·) → u ∈ l → l.headD 0 ≤ u
  | a :: r, u, h, hu => by
    rcases List.mem_cons.mp hu with rfl | hu
    · exact Int.le_refl _
    · exact Int.le_of_lt ((List.pairwise_cons.mp h).1 u hu)
theorem srt_last : ∀ {l : List Int} {u : Int}, l.Pairwise (· < ·) → u ∈ l → u ≤ l.getLastD 0
  | [a], u, h, hu => by rw [List.mem_singleton.mp hu]; exact Int.le_refl _
  | a :: b :: r, u, h, hu => by
    have h2 := (List.pairwise_cons.mp h)
    have e : (a :: b :: r).getLastD 0 = (b :: r).getLastD 0 := by simp
    rw [e]
    rcases List.mem_cons.mp hu with rfl | hu
    · exact Int.le_trans (Int.le_of_lt (h2.1 b (by simp))) (srt_last h2.2 (by simp))
    · exact srt_last h2.2 hu
noncomputable def OutR (tk : List Nat) (v : Int) (m : Nat) (w : Wd) (L : List (List Int)) (T : Nat) (b : Bool) (w' : Wd) : Prop :=
  b = onceD L tk v m ∧ ∃ es L', (b = true ∧ L' = onceF L tk v m ∧ St tk v m w L w' L' (T + 7) es) ∨
   (b = false ∧ ∃ cl, Fell tk v m w L w' L' (T + 7) es cl ∧ cl.length ≤ 100 ∧ (∀ one ∈ cl, holdsIn L' one) ∧ isWay cl (tz tk) v m = false)
theorem numF_cut {L : List (List Int)} {tk : List Nat} {v : Int} {m : Nat} (hm : m < L.length) : cut (L.set m (cut L ⟨m, .ge, sureN L tk v⟩)) ⟨m, .le, ableN L tk v⟩ = numF L tk v m := by
  unfold cut numF
  simp only [List.getD_eq_getElem?_getD, List.getElem?_set_self hm, Option.getD_some, List.filter_filter]
  apply List.filter_congr
  intro k _
  simp only [fits, ge_iff_le]
  rw [Bool.and_comm]
set_option maxHeartbeats 400000 in
theorem strike_once_run {n : Nat} {w : Wd} {L : List (List Int)} {tk : List Nat} {v : Int} {m T : Nat} (I : Inv w L m T) (hm : m ≤ 400) (hT : T ≤ 400) (htk : tk.length ≤ 5) (hxm : ∀ x ∈ tk, x < m) (hf : w.f = false) (h8 : w.g[8]? = some (.fields (cfs tk v m))) :
    ∃ b w', call (n + 6) (some (Str.ofString "Count"), ("strike_once" : Str)) [ctv, stv] w.g = some (.bool b, w'.g) ∧ OutR tk v m w L T b w' := by
  have htk' : tk.length ≤ lim := Nat.le_trans htk (by decide)
  have htm' : (tk.map fun x : Nat => V.int (x : Int)).length ≤ lim := by simpa using htk'
  have hm5 : m ≤ 500 := by exact lin [_] (.h 1 0 (.v 0) (.c 400) (.g 1 0 (.v 0) (.c 500))) rfl hm
  have hc1 : ∀ p : Nat → Bool, ((tk.filter p).map fun x : Nat => V.int (x : Int)).length ≤ lim := fun p => by
    rw [List.length_map]; exact Nat.le_trans (List.length_filter_le _ _) htk'
  have hfl : ∀ p : Nat → Bool, (tk.filter p).length ≤ lim := fun p => Nat.le_trans (List.length_filter_le _ _) htk'
  suffices h : CallQ (n + 6) (some (Str.ofString "Count"), ("strike_once" : Str)) [ctv, stv] w.g fun r s => ∃ b w', r = .bool b ∧ s = w'.g ∧ OutR tk v m w L T b w' by
    refine el_EEAEEAA (callQ_get h) fun r s e b w' hq5_ hq6_ h => ?_
    subst hq5_
    subst hq6_
    exact in_EEA b w' e h
  apply callQ rfl rfl rfl rfl
  apply ends_asg (v := ztk (heldN L tk v)) (σ1 := w.g)
  · rw [ev_comp1 (σ := w.g) (σ1 := w.g) (fun x : Nat => V.int (x : Int)) tk (fun x => decide (L.getD x [] = [v])) (fun x : Nat => V.int (x : Int)) (fun ρ => ρ "self" = some ctv ∧ ρ "store" = some stv) rfl (by simp! [↓q6, ↓q17f, eq_self, ↓bz, ob_s, nr, qb1, qb2, ur, oj, List.map_cons, List.map_nil, ↓reduceIte, String.reduceEq, ct_taken h8]) (walk_tup htm') rfl ⟨rfl, rfl⟩ htk']
    · exact mkL_f (by rfl) (hc1 _)
    · intro x hxt ρ hri_
      obtain ⟨h1, h2⟩ := hri_
      refine in_EAAA _ rfl ⟨h1, h2⟩ ?_ (fun _ => by simp! [↓q6, eq_self, nr, ur, ↓reduceIte])
      have hx : x ≤ m := Nat.le_of_lt (hxm x hxt)
      rcases fix_inv (n := n + 4) (v := v) I hx hm5 with ⟨a1, a2⟩ | ⟨u, a1, a2, a3⟩
      · simp! [↓q6, ↓q22f, eq_self, ↓qs1, ↓qs2, ↓qC1, ↓qt3, ↓qt5, ↓qt7, ↓qtB1, ↓qtB2, ↓qtA1, ↓qtA2, ↓bz, ob_s, pu, check_t, nr, ur, oj, Bool.false_eq_true, qtr, qc1, ↓reduceIte, List.isEmpty_nil, Bool.and_true, List.length_cons, List.length_nil, Nat.reduceAdd, Nat.reduceLT, decide_true, String.reduceEq, h2, meth_st, a1, decide_eq_false a2]
      · simp! [↓q6, ↓q17f, ↓q22f, eq_self, ↓qs1, ↓qs2, ↓qC1, ↓qt3, ↓qt5, ↓qt7, ↓qtB1, ↓qtB2, ↓qtA1, ↓qtA2, ↓bz, ob_s, pu, check_t, nr, ur, oj, qtr, qc1, ↓reduceIte, List.isEmpty_nil, Bool.and_true, beq_self_eq_true, List.length_cons, List.length_nil, Nat.reduceAdd, Nat.reduceLT, decide_true, String.reduceEq, eqV_int, h1, h2, meth_st, a1, a2, ct_value h8, decide_eq_decide.mpr a3]
        by_cases c : L.getD x [] = [v]
        · rw [decide_eq_true c]; rfl
        · rw [decide_eq_false c]; rfl
  · rfl
  · rfl
  apply ends_asg (v := ztk (barN L tk v)) (σ1 := w.g)
  · rw [ev_comp1 (σ := w.g) (σ1 := w.g) (fun x : Nat => V.int (x : Int)) tk (fun x => !decide (v ∈ L.getD x [])) (fun x : Nat => V.int (x : Int)) (fun ρ => ρ "self" = some ctv ∧ ρ "store" = some stv) rfl (by simp! [↓q6, ↓q17f, eq_self, ↓bz, ob_s, nr, qb1, qb2, ur, oj, List.map_cons, List.map_nil, ↓reduceIte, String.reduceEq, ct_taken h8]) (walk_tup htm') rfl ⟨rfl, rfl⟩ htk']
    · exact mkL_f (by rfl) (hc1 _)
    · intro x hxt ρ hri_
      obtain ⟨h1, h2⟩ := hri_
      refine in_EAAA _ rfl ⟨h1, h2⟩ ?_ (fun _ => by simp! [↓q6, eq_self, nr, ur, ↓reduceIte])
      have hx : x ≤ m := Nat.le_of_lt (hxm x hxt)
      have a1 := has_inv (n := n + 2) (v := v) I hx hm5
      simp! [↓q6, ↓q17f, ↓q22f, eq_self, ↓qs1, ↓qs2, ↓qt1, ↓qt7, ↓qtA1, ↓qtA2, ↓bz, ob_s, pu, check_t, nr, ur, oj, qtr, ↓reduceIte, Bool.and_true, List.length_cons, List.length_nil, Nat.reduceAdd, Nat.reduceLT, decide_true, String.reduceEq, h1, h2, meth_st, a1, ct_value h8, ite_tf]
  · rfl
  · rfl
  apply ends_asg (v := ztk (openN L tk v)) (σ1 := w.g)
  · rw [ev_comp1 (σ := w.g) (σ1 := w.g) (fun x : Nat => V.int (x : Int)) tk (fun x : Nat => !decide ((x : Int) ∈ tz (heldN L tk v)) && !decide ((x : Int) ∈ tz (barN L tk v))) (fun x : Nat => V.int (x : Int)) (fun ρ => ρ "held" = some (ztk (heldN L tk v)) ∧ ρ "barred" = some (ztk (barN L tk v))) rfl (by simp! [↓q6, ↓q17f, eq_self, ↓bz, ob_s, nr, qb1, qb2, ur, oj, List.map_cons, List.map_nil, ↓reduceIte, String.reduceEq, ct_taken h8]) (walk_tup htm') rfl ⟨rfl, rfl⟩ htk']
    · have : (tk.filter fun x : Nat => !decide ((x : Int) ∈ tz (heldN L tk v)) && !decide ((x : Int) ∈ tz (barN L tk v))) = openN L tk v := by
        apply List.filter_congr
        intro x hx
        have e1 : ((x : Int) ∈ tz (heldN L tk v)) ↔ L.getD x [] = [v] := mem_tz.trans (by unfold heldN; rw [List.mem_filter, decide_eq_true_iff]; exact ⟨fun h => h.2, fun h => ⟨hx, h⟩⟩)
        have e2 : ((x : Int) ∈ tz (barN L tk v)) ↔ ¬ v ∈ L.getD x [] := mem_tz.trans (by unfold barN; rw [List.mem_filter, Bool.not_eq_true', decide_eq_false_iff_not]; exact ⟨fun h => h.2, fun h => ⟨hx, h⟩⟩)
        rw [decide_eq_decide.mpr e1, decide_eq_decide.mpr e2, decide_not, Bool.not_not, Bool.and_comm]
      rw [this]
      exact mkL_f (by rfl) (hc1 _)
    · intro x hxt ρ hri_
      obtain ⟨h1, h2⟩ := hri_
      refine in_EAAA _ rfl ⟨h1, h2⟩ ?_ (fun _ => by simp! [↓q6, eq_self, nr, ur, ↓reduceIte])
      by_cases c : (x : Int) ∈ tz (heldN L tk v)
      · simp! [↓q6, eq_self, ↓qC1, ↓qt3, ↓qt5, ↓qtB1, ↓qtB2, ↓qtA1, ↓qtA2, ↓bz, ob_s, pu, nr, ur, oj, Bool.false_eq_true, qc11, ↓reduceIte, List.isEmpty_nil, Bool.and_true, Bool.false_and, Bool.not_true, String.reduceEq, h1, ztk_zs, inV_zs, decide_eq_true c]
      · simp! [↓q6, eq_self, ↓qC1, ↓qt3, ↓qt5, ↓qtB1, ↓qtB2, ↓qtA1, ↓qtA2, ↓bz, ob_s, pu, nr, ur, oj, qc11, ↓reduceIte, List.isEmpty_nil, Bool.and_true, Bool.true_and, Bool.not_false, beq_self_eq_true, String.reduceEq, h1, h2, ztk_zs, inV_zs, decide_eq_false c]
        by_cases c2 : (x : Int) ∈ tz (barN L tk v)
        · rw [decide_eq_true c2]; rfl
        · rw [decide_eq_false c2]; rfl
  · rfl
  · rfl
  apply ends_asg (v := .lst ((lowR L tk v).map lit)) (σ1 := w.g)
  · rw [ev_comp1 (σ := w.g) (σ1 := w.g) (fun x : Nat => V.int (x : Int)) (heldN L tk v) (fun x => true) (fun x : Nat => lit ⟨x, .eq, v⟩) (fun ρ => ρ "self" = some ctv) rfl (by simp! [↓q6, eq_self, nr, qb1, qb2, ur, oj, List.map_cons, List.map_nil, ↓reduceIte, String.reduceEq]) (walk_tk (hfl _)) rfl rfl (hfl _)]
    · rw [show ((heldN L tk v).filter fun _ => true) = heldN L tk v by simp]
      refine (mkL_f (by rfl) (by rw [List.length_map]; exact hfl _)).trans ?_
      unfold lowR
      rw [List.map_map]
      rfl
    · rintro x hxt ρ h1
      refine in_EAAA _ rfl h1 (by simp! [eq_self, ↓qtA1, pu]) (fun _ => by simp! [↓q4, ↓q6, ↓q14, ↓q17f, lim_3, eq_self, ↓qs1, ↓qs2, ↓bz, ob_s, pu, check_t, nr, ur, oj, ↓reduceIte, List.length_cons, List.length_nil, Nat.zero_add, Nat.reduceAdd, String.reduceEq, h1, ct_value h8]; rfl)
  · rfl
  · rfl
  apply ends_asg (v := .lst ((highR L tk v).map lit)) (σ1 := w.g)
  · rw [ev_comp1 (σ := w.g) (σ1 := w.g) (fun x : Nat => V.int (x : Int)) (barN L tk v) (fun x => true) (fun x : Nat => lit ⟨x, .ne, v⟩) (fun ρ => ρ "self" = some ctv) rfl (by simp! [↓q6, eq_self, nr, qb1, qb2, ur, oj, List.map_cons, List.map_nil, ↓reduceIte, String.reduceEq]) (walk_tk (hfl _)) rfl rfl (hfl _)]
    · rw [show ((barN L tk v).filter fun _ => true) = barN L tk v by simp]
      refine (mkL_f (by rfl) (by rw [List.length_map]; exact hfl _)).trans ?_
      unfold highR
      rw [List.map_map]
      rfl
    · rintro x hxt ρ h1
      refine in_EAAA _ rfl h1 (by simp! [eq_self, ↓qtA1, pu]) (fun _ => by simp! [↓q4, ↓q6, ↓q14, ↓q17f, lim_3, eq_self, ↓qs1, ↓qs2, ↓bz, ob_s, pu, check_t, nr, ur, oj, ↓reduceIte, List.length_cons, List.length_nil, Nat.zero_add, Nat.reduceAdd, String.reduceEq, h1, ct_value h8]; rfl)
  · rfl
  · rfl
  apply ends_asg (v := .int (ableN L tk v)) (σ1 := w.g)
  · have hb : (barN L tk v).length ≤ lim := hfl _
    have e : (tk.length : Int) - (barN L tk v).length = (ableN L tk v : Nat) := by have := able_bar (L := L) (tk := tk) (v := v); exact Int.le_antisymm (lini [_,_,_] (.h 1 3 (.a (.v 0) (.v 1)) (.v 2) (.g 1 0 (.s (.v 2) (.v 1)) (.v 0))) rfl (congrArg Int.ofNat this)) (lini [_,_,_] (.h 1 2 (.a (.v 0) (.v 1)) (.v 2) (.g 1 0 (.v 0) (.s (.v 2) (.v 1)))) rfl (congrArg Int.ofNat this))
    have hz : (tz (barN L tk v)).length = (barN L tk v).length := by simp [tz]
    have hz2 : (tz (barN L tk v)).length ≤ lim := hz ▸ hb
    simp! [↓q6, ↓q8, ↓q17f, ↓q25f, eq_self, ↓qs1, ↓qs2, ↓bz, ob_s, pu, nr, qb1, qb2, ur, oj, List.map_cons, List.map_nil, binV_subi, ↓reduceIte, String.reduceEq, ct_taken h8, callN_len_t, List.length_map, ztk_zs, callN_len_zs, hz, e]
  · rfl
  · rfl
  have hmL : m < L.length := by rw [I.lenL]; exact lin [_] (.g 1 1 (.v 0) (.a (.v 0) (.c 1))) rfl
  have hxL : ∀ x ∈ tk, x < L.length := fun x hx => Nat.lt_trans (hxm x hx) hmL
  have hl100 : (lowR L tk v).length ≤ 5 := Nat.le_trans lowR_len htk
  have hh100 : (highR L tk v).length ≤ 5 := Nat.le_trans highR_len htk
  have hsl : (tz (heldN L tk v)).length = sureN L tk v := by simp [tz, sure_len]
  have hsl2 : (tz (heldN L tk v)).length ≤ lim := by rw [hsl, ← sure_len]; exact hfl _
  have S0 : St tk v m w L w L T [] := ⟨Same.rfl' w, hf, by simp, .nil, I⟩
  obtain ⟨b1, w1, e1, q1⟩ := st_strike (n := n) (l := ⟨m, .ge, sureN L tk v⟩) (rs := lowR L tk v) S0 (Nat.le_refl m) hm5 (by exact lin [_] (.h 1 0 (.v 0) (.c 400) (.g 1 0 (.v 0) (.c 500))) rfl hT) (by exact lin [_] (.h 1 0 (.v 0) (.c 5) (.g 1 0 (.v 0) (.c 100))) rfl hl100) (hold_low hxL fun _ _ => rfl) way_a
  have e1' : call (n + 5) (some (Str.ofString "Store"), ("strike" : Str)) [stv, .tup [.int m, .str (">=" : Str), .int (sureN L tk v)], .lst ((lowR L tk v).map lit)] w.g = some (.bool b1, w1.g) := e1
  rcases q1 with ⟨c1, rfl, Fl⟩ | ⟨c1, rfl, es1, S1⟩
  · apply ends_if_t (σ1 := w1.g)
    · simp! [↓q4, ↓q6, ↓q14, ↓q17f, ↓q22f, ↓q25f, lim_3, eq_self, ↓qs1, ↓qs2, ↓qt1, ↓qt3, ↓qt7, ↓qtB1, ↓qtB2, ↓bz, ob_s, pu, check_t, nr, qb1, qb2, ur, oj, List.map_cons, List.map_nil, qtr, ↓reduceIte, Bool.and_true, Bool.not_false, List.length_cons, List.length_nil, Nat.zero_add, Nat.reduceAdd, Nat.reduceLT, decide_true, String.reduceEq, meth_st, ct_n h8, ztk_zs, callN_len_zs, hsl, e1']
    apply ends_ret (v := .bool false) (σ1 := w1.g)
    · simp! [↓q2, eq_self, pu]
    · have h0 : numF L tk v m = [] := by
        rw [← numF_cut hmL, c1]
        unfold cut
        simp [List.getD_eq_getElem?_getD, hmL]
      refine in_EEAAAEE false w1 rfl rfl ?_ ([]) L (.inr ⟨rfl, _, Fl.mono (by exact lin [_] (.g 1 0 (.v 0) (.a (.v 0) (.c 7))) rfl), ?_, ?_, way_a⟩)
      · unfold onceD; rw [h0]; rfl
      · rw [List.length_append, List.length_singleton]; exact lin [_] (.h 1 0 (.v 0) (.c 5) (.g 1 0 (.a (.v 0) (.c 1)) (.c 100))) rfl hl100
      · intro one ho
        rcases List.mem_append.mp ho with ho | ho
        · exact hold_low hxL (fun _ _ => rfl) one ho
        · rw [List.mem_singleton.mp ho]; exact hold_neg hmL c1
  generalize hL1 : L.set m (cut L ⟨m, .ge, sureN L tk v⟩) = L1 at S1
  have hL1l : L1.length = L.length := by rw [← hL1, List.length_set]
  have hmL1 : m < L1.length := hL1l ▸ hmL
  have hL1x : ∀ x ∈ tk, L1.getD x [] = L.getD x [] := fun x hx => by
    have : m ≠ x := by have := hxm x hx; exact fun q_ => lin [_,_] (.h 1 1 (.v 0) (.v 1) (.h 1 2 (.v 1) (.v 0) .f)) rfl this q_
    rw [← hL1]; simp [List.getD_eq_getElem?_getD, List.getElem?_set_ne this]
  have hxL1 : ∀ x ∈ tk, x < L1.length := fun x hx => hL1l ▸ hxL x hx
  have S1' : St tk v m w L w1 L1 (T + 1) es1 := S1
  have hnum : cut L1 ⟨m, .le, ableN L tk v⟩ = numF L tk v m := by rw [← hL1]; exact numF_cut hmL
  have hbt : ∀ y ∈ barN L tk v, y ∈ tk := fun y hy => (List.mem_filter.mp hy).1
  have hht : ∀ y ∈ heldN L tk v, y ∈ tk := fun y hy => (List.mem_filter.mp hy).1
  obtain ⟨b2, w2, e2, q2⟩ := st_strike (n := n) (l := ⟨m, .le, ableN L tk v⟩) (rs := highR L tk v) S1' (Nat.le_refl m) hm5 (by exact lin [_] (.h 1 0 (.v 0) (.c 400) (.g 1 0 (.a (.v 0) (.c 1)) (.c 500))) rfl hT) (by exact lin [_] (.h 1 0 (.v 0) (.c 5) (.g 1 0 (.v 0) (.c 100))) rfl hh100) (hold_high hxL1 fun y hy => hL1x y (hbt y hy)) way_b
  have e2' : call (n + 5) (some (Str.ofString "Store"), ("strike" : Str)) [stv, .tup [.int m, .str ("<=" : Str), .int (ableN L tk v)], .lst ((highR L tk v).map lit)] w1.g = some (.bool b2, w2.g) := e2
  have h81 : w1.g[8]? = some (.fields (cfs tk v m)) := S1.same.at h8
  rcases q2 with ⟨c2, rfl, Fl⟩ | ⟨c2, rfl, es2, S2⟩
  · apply ends_if_t (σ1 := w2.g)
    · simp! [↓q4, ↓q6, ↓q14, ↓q17f, ↓q22f, ↓q25f, lim_3, eq_self, ↓qs1, ↓qs2, ↓qt1, ↓qt3, ↓qt7, ↓qtB1, ↓qtB2, ↓bz, ob_s, pu, check_t, nr, qb1, qb2, ur, oj, List.map_cons, List.map_nil, qtr, ↓reduceIte, Bool.and_true, Bool.not_true, Bool.not_false, List.length_cons, List.length_nil, Nat.zero_add, Nat.reduceAdd, Nat.reduceLT, decide_true, String.reduceEq, meth_st, ct_n h8, ct_n h81, ztk_zs, callN_len_zs, hsl, e1', e2']
    apply ends_ret (v := .bool false) (σ1 := w2.g)
    · simp! [↓q2, eq_self, pu]
    · have h0 : numF L tk v m = [] := by rw [← hnum, c2]
      refine in_EEAAAEE false w2 rfl rfl ?_ es1 L1 (.inr ⟨rfl, _, Fl.mono (by exact lin [_] (.g 1 0 (.a (.v 0) (.c 1)) (.a (.v 0) (.c 7))) rfl), ?_, ?_, way_b⟩)
      · unfold onceD; rw [h0]; rfl
      · rw [List.length_append, List.length_singleton]; exact lin [_] (.h 1 0 (.v 0) (.c 5) (.g 1 0 (.a (.v 0) (.c 1)) (.c 100))) rfl hh100
      · intro one ho
        rcases List.mem_append.mp ho with ho | ho
        · exact hold_high hxL1 (fun y hy => hL1x y (hbt y hy)) one ho
        · rw [List.mem_singleton.mp ho]; exact hold_neg hmL1 c2
  apply eif (σ1 := w2.g)
  · simp! [↓q4, ↓q6, ↓q14, ↓q17f, ↓q22f, ↓q25f, lim_3, eq_self, ↓qs1, ↓qs2, ↓qt1, ↓qt3, ↓qt7, ↓qtB1, ↓qtB2, ↓bz, ob_s, pu, check_t, nr, qb1, qb2, ur, oj, List.map_cons, List.map_nil, qtr, ↓reduceIte, Bool.and_true, Bool.not_true, List.length_cons, List.length_nil, Nat.zero_add, Nat.reduceAdd, Nat.reduceLT, decide_true, String.reduceEq, meth_st, ct_n h8, ct_n h81, ztk_zs, callN_len_zs, hsl, e1', e2']
    rfl
  rw [hnum] at c2 S2
  have hL2 : L1.set m (numF L tk v m) = L.set m (numF L tk v m) := by rw [← hL1, List.set_set]
  simp only [hL2] at S2
  generalize hL2' : L.set m (numF L tk v m) = L2 at S2
  have hL2x : ∀ x ∈ tk, L2.getD x [] = L.getD x [] := fun x hx => by
    have : m ≠ x := by have := hxm x hx; exact fun q_ => lin [_,_] (.h 1 1 (.v 0) (.v 1) (.h 1 2 (.v 1) (.v 0) .f)) rfl this q_
    rw [← hL2']; simp [List.getD_eq_getElem?_getD, List.getElem?_set_ne this]
  have hL2m : L2.getD m [] = numF L tk v m := by rw [← hL2']; simp [List.getD_eq_getElem?_getD, hmL]
  have h82 : w2.g[8]? = some (.fields (cfs tk v m)) := S2.same.at h8
  have hdone : onceD L tk v m = true := by unfold onceD; rw [decide_eq_false c2]; rfl
  have a1 := high_inv (n := n + 3) S2.inv (Nat.le_refl m) hm5
  have a2 := low_inv (n := n + 3) S2.inv (Nat.le_refl m) hm5
  rw [hL2m] at a1 a2
  have nodd : ∀ y, y ∈ heldN L tk v → y ∉ openN L tk v := fun y h1 h2 => by
    have h1 := (List.mem_filter.mp h1).2
    have h2 := (List.mem_filter.mp h2).2
    rw [h1] at h2
    simp at h2
  have nobb : ∀ y, y ∈ barN L tk v → y ∉ openN L tk v := fun y h1 h2 => by
    have h1 := (List.mem_filter.mp h1).2
    have h2 := (List.mem_filter.mp h2).2
    simp only [Bool.not_eq_true'] at h1
    rw [h1] at h2
    simp at h2
  have nomm : m ∉ openN L tk v := fun h => absurd (hxm m (List.mem_filter.mp h).1) (Nat.lt_irrefl m)
  have hsrt : ∀ x ∈ tk, (L.getD x []).Pairwise (· < ·) := fun x hx => (I.srt (Nat.le_of_lt (hxm x hx))).1
  by_cases c3 : (numF L tk v m).getLastD 0 = (sureN L tk v : Int)
  · apply ends_if_t (σ1 := w2.g)
    · simp! [↓q6, ↓q17f, ↓q22f, ↓q25f, eq_self, ↓qs1, ↓qs2, ↓qC1, ↓qt5, ↓bz, ob_s, pu, check_t, nr, qb1, qb2, ur, oj, List.map_cons, List.map_nil, qc1, ↓reduceIte, List.isEmpty_nil, Bool.and_true, List.length_cons, List.length_nil, Nat.reduceAdd, Nat.reduceLT, decide_true, String.reduceEq, eqV_int, meth_st, ct_n h82, a1, ztk_zs, callN_len_zs, hsl, decide_eq_true c3]
    have hadd : ((lowR L tk v).map lit).length + 1 ≤ lim := by rw [List.length_map]; exact Nat.le_trans (Nat.succ_le_succ hl100) (by decide)
    apply ends_asg (v := .tup [.str ("!=" : Str), .lst ((lowR L tk v ++ [(⟨m, .le, sureN L tk v⟩ : Lit)]).map lit)]) (σ1 := w2.g)
    · have e : (lowR L tk v ++ [(⟨m, .le, sureN L tk v⟩ : Lit)]).map lit = (lowR L tk v).map lit ++ [.tup [.int m, .str ("<=" : Str), .int (sureN L tk v)]] := by rw [List.map_append]; rfl
      rw [e]
      simp! [↓q4, ↓q6, ↓q8, ↓q13, ↓q14, ↓q17f, ↓q25f, lim_2, lim_3, eq_self, ↓qs1, ↓qs2, ↓bz, ob_s, pu, check_t, nr, qb1, qb2, ur, oj, List.map_cons, List.map_nil, ↓reduceIte, List.length_cons, List.length_nil, Nat.zero_add, Nat.reduceAdd, String.reduceEq, ct_n h82, ztk_zs, callN_len_zs, hsl, mkL_f1, binV_addl]
    · rfl
    · rfl
    apply ends_nil
    have hlr : (lowR L tk v ++ [(⟨m, .le, sureN L tk v⟩ : Lit)]).length ≤ 100 := by rw [List.length_append, List.length_singleton]; exact lin [_] (.h 1 0 (.v 0) (.c 5) (.g 1 0 (.a (.v 0) (.c 1)) (.c 100))) rfl hl100
    have hwy : ∀ x ∈ openN L tk v, isWay ((lowR L tk v ++ [⟨m, .le, sureN L tk v⟩]) ++ [negL ⟨x, .ne, v⟩]) (tz tk) v m = false := fun x hx => way_c hx
    have hT5 : T + 1 + 1 ≤ 450 := by exact lin [_] (.h 1 0 (.v 0) (.c 400) (.g 1 0 (.a (.a (.v 0) (.c 1)) (.c 1)) (.c 450))) rfl hT
    generalize hRR : lowR L tk v ++ [(⟨m, .le, sureN L tk v⟩ : Lit)] = R at *
    refine loop_run .ne R S2 hm hT5 htk hxm ?_ hL2x hlr ?_ hwy h8 rfl rfl rfl rfl rfl ?_
    · intro x hx
      obtain ⟨h1, h2⟩ := List.mem_filter.mp hx
      simp only [Bool.and_eq_true, Bool.not_eq_true', decide_eq_true_iff, decide_eq_false_iff_not] at h2
      exact flt_ne_some (hsrt x h1) h2.1 h2.2
    · intro F hFl hF one ho
      rw [← hRR] at ho
      rcases List.mem_append.mp ho with ho | ho
      · refine hold_low (fun x hx => by have := hxm x hx; exact lin [_,_,_] (.h 1 3 (.v 0) (.a (.v 1) (.c 1)) (.h 1 1 (.v 2) (.v 1) (.g 1 1 (.v 2) (.v 0)))) rfl hFl this) (fun y hy => ?_) one ho
        rw [(hF y).resolve_right (nodd y hy), hL2x y (hht y hy)]
      · rw [List.mem_singleton.mp ho]
        refine holds_iff.mpr ⟨by show m < F.length; exact lin [_,_] (.h 1 3 (.v 0) (.a (.v 1) (.c 1)) (.g 1 1 (.v 1) (.v 0))) rfl hFl, fun u hu => ?_⟩
        have hu2 : u ∈ numF L tk v m := by rw [← hL2m, ← (hF m).resolve_right nomm]; exact hu
        exact decide_eq_true (c3 ▸ srt_last (flt_srt (I.srt (Nat.le_refl m)).1) hu2)
    · intro ρ w3 es3 S3
      refine in_EEAAAEE true w3 rfl rfl hdone.symm es3 _ (.inl ⟨rfl, ?_, S3.mono (by exact lin [_] (.g 1 0 (.a (.a (.a (.v 0) (.c 1)) (.c 1)) (.c 5)) (.a (.v 0) (.c 7))) rfl)⟩)
      rw [once_ne c2 c3, hL2']
  · apply ends_if_f (σ1 := w2.g)
    · simp! [↓q6, ↓q17f, ↓q22f, ↓q25f, eq_self, ↓qs1, ↓qs2, ↓qC1, ↓qt5, ↓bz, ob_s, pu, check_t, nr, qb1, qb2, ur, oj, List.map_cons, List.map_nil, qc1, ↓reduceIte, List.isEmpty_nil, Bool.and_true, List.length_cons, List.length_nil, Nat.reduceAdd, Nat.reduceLT, decide_true, String.reduceEq, eqV_int, meth_st, ct_n h82, a1, ztk_zs, callN_len_zs, hsl, decide_eq_false c3]
    by_cases c4 : (numF L tk v m).headD 0 = (ableN L tk v : Int)
    · apply ends_if_t (σ1 := w2.g)
      · simp! [↓q6, ↓q17f, ↓q22f, eq_self, ↓qs1, ↓qs2, ↓qC1, ↓qt5, ↓bz, ob_s, pu, check_t, nr, qb1, qb2, ur, oj, List.map_cons, List.map_nil, qc1, ↓reduceIte, List.isEmpty_nil, Bool.and_true, List.length_cons, List.length_nil, Nat.reduceAdd, Nat.reduceLT, decide_true, String.reduceEq, eqV_int, meth_st, ct_n h82, a2, decide_eq_true c4]
      have hadd : ((highR L tk v).map lit).length + 1 ≤ lim := by rw [List.length_map]; exact Nat.le_trans (Nat.succ_le_succ hh100) (by decide)
      apply ends_asg (v := .tup [.str ("=" : Str), .lst ((highR L tk v ++ [(⟨m, .ge, ableN L tk v⟩ : Lit)]).map lit)]) (σ1 := w2.g)
      · have e : (highR L tk v ++ [(⟨m, .ge, ableN L tk v⟩ : Lit)]).map lit = (highR L tk v).map lit ++ [.tup [.int m, .str (">=" : Str), .int (ableN L tk v)]] := by rw [List.map_append]; rfl
        rw [e]
        simp! [↓q4, ↓q6, ↓q8, ↓q13, ↓q14, ↓q17f, lim_2, lim_3, eq_self, ↓qs1, ↓qs2, ↓bz, ob_s, pu, check_t, nr, qb1, qb2, ur, oj, List.map_cons, List.map_nil, ↓reduceIte, List.length_cons, List.length_nil, Nat.zero_add, Nat.reduceAdd, String.reduceEq, ct_n h82, mkL_f1, binV_addl]
      · rfl
      · rfl
      apply ends_nil
      apply ends_nil
      have hlr : (highR L tk v ++ [(⟨m, .ge, ableN L tk v⟩ : Lit)]).length ≤ 100 := by rw [List.length_append, List.length_singleton]; exact lin [_] (.h 1 0 (.v 0) (.c 5) (.g 1 0 (.a (.v 0) (.c 1)) (.c 100))) rfl hh100
      have hwy : ∀ x ∈ openN L tk v, isWay ((highR L tk v ++ [⟨m, .ge, ableN L tk v⟩]) ++ [negL ⟨x, .eq, v⟩]) (tz tk) v m = false := fun x hx => way_d hx
      have hT5 : T + 1 + 1 ≤ 450 := by exact lin [_] (.h 1 0 (.v 0) (.c 400) (.g 1 0 (.a (.a (.v 0) (.c 1)) (.c 1)) (.c 450))) rfl hT
      generalize hRR : highR L tk v ++ [(⟨m, .ge, ableN L tk v⟩ : Lit)] = R at *
      refine loop_run .eq R S2 hm hT5 htk hxm ?_ hL2x hlr ?_ hwy h8 rfl rfl rfl rfl rfl ?_
      · intro x hx
        obtain ⟨h1, h2⟩ := List.mem_filter.mp hx
        simp only [Bool.and_eq_true, Bool.not_eq_true', decide_eq_true_iff, decide_eq_false_iff_not] at h2
        rw [flt_eq_one (hsrt x h1) h2.1]; simp
      · intro F hFl hF one ho
        rw [← hRR] at ho
        rcases List.mem_append.mp ho with ho | ho
        · refine hold_high (fun x hx => by have := hxm x hx; exact lin [_,_,_] (.h 1 3 (.v 0) (.a (.v 1) (.c 1)) (.h 1 1 (.v 2) (.v 1) (.g 1 1 (.v 2) (.v 0)))) rfl hFl this) (fun y hy => ?_) one ho
          rw [(hF y).resolve_right (nobb y hy), hL2x y (hbt y hy)]
        · rw [List.mem_singleton.mp ho]
          refine holds_iff.mpr ⟨by show m < F.length; exact lin [_,_] (.h 1 3 (.v 0) (.a (.v 1) (.c 1)) (.g 1 1 (.v 1) (.v 0))) rfl hFl, fun u hu => ?_⟩
          have hu2 : u ∈ numF L tk v m := by rw [← hL2m, ← (hF m).resolve_right nomm]; exact hu
          exact decide_eq_true (c4 ▸ srt_head (flt_srt (I.srt (Nat.le_refl m)).1) hu2)
      · intro ρ w3 es3 S3
        refine in_EEAAAEE true w3 rfl rfl hdone.symm es3 _ (.inl ⟨rfl, ?_, S3.mono (by exact lin [_] (.g 1 0 (.a (.a (.a (.v 0) (.c 1)) (.c 1)) (.c 5)) (.a (.v 0) (.c 7))) rfl)⟩)
        rw [once_eq hsrt c2 c3 c4, hL2']
    · apply ends_if_f (σ1 := w2.g)
      · simp! [↓q6, ↓q17f, ↓q22f, eq_self, ↓qs1, ↓qs2, ↓qC1, ↓qt5, ↓bz, ob_s, pu, check_t, nr, qb1, qb2, ur, oj, List.map_cons, List.map_nil, qc1, ↓reduceIte, List.isEmpty_nil, Bool.and_true, List.length_cons, List.length_nil, Nat.reduceAdd, Nat.reduceLT, decide_true, String.reduceEq, eqV_int, meth_st, ct_n h82, a2, decide_eq_false c4]
      apply ends_ret (v := .bool true) (σ1 := w2.g)
      · simp! [↓q2, eq_self, pu]
      · refine in_EEAAAEE true w2 rfl rfl hdone.symm es2 L2 (.inl ⟨rfl, ?_, S2.mono (by exact lin [_] (.g 1 0 (.a (.a (.v 0) (.c 1)) (.c 1)) (.a (.v 0) (.c 7))) rfl)⟩)
        rw [once_id c2 c3 c4, hL2']
end
section
open PySem
set_option maxRecDepth 100000
set_option backward.defeqAttrib.useBackward true
noncomputable def zz (A : List (List Int)) : V := .lst (A.map zs)
theorem flat_zz (A : List (List Int)) : flat 6 (zz A) = true := by
  show (A.map zs).all (flat 5) = true
  rw [List.all_eq_true]
  intro x hx
  refine el_EA (List.mem_map.mp hx) fun a _ hq2_ => ?_
  refine eq_r hq2_ ?_
  exact flat_zs' 4 a
theorem zz_inj {A B : List (List Int)} (h : zz A = zz B) : A = B := map_inj zs_inj (V.lst.inj h)
theorem eqV_zz (A B : List (List Int)) (σ : Sg) : eqV (zz A) (zz B) σ = some (decide (A = B), σ) := eqV_dec zz (fun _ _ h => zz_inj h) (fun _ => rfl) flat_zz A B σ
theorem beq_zz (A B : List (List Int)) : V.beq (zz A) (zz B) = decide (A = B) := beq_dec zz (fun _ _ h => zz_inj h) A B
theorem eqV_rr {a b : Nat} {A B : List (List Int)} {σ : Sg} (ha : σ[a]? = some (.list (A.map zs))) (hb : σ[b]? = some (.list (B.map zs))) : eqV (.ref a) (.ref b) σ = some (decide (A = B), σ) := by
  have h1 : seqOf (.ref a) σ = some (zz A, σ) := by show (getObj a >>= _) σ = _; rw [bq, getObj_run, ha]; rfl
  have h2 : seqOf (.ref b) σ = some (zz B, σ) := by show (getObj b >>= _) σ = _; rw [bq, getObj_run, hb]; rfl
  show (do
    let a ← seqOf (.ref a)
    let b ← seqOf (.ref b)
    check (flat 6 a && flat 6 b)
    pure (V.beq a b) : M Bool) σ = _
  rw [bq, h1]
  dsimp only
  rw [bq, h2]
  dsimp only
  rw [bq, cq, flat_zz, flat_zz, beq_zz]
  rfl
theorem eqV_zr {b : Nat} {A B : List (List Int)} {σ : Sg} (hb : σ[b]? = some (.list (B.map zs))) : eqV (zz A) (.ref b) σ = some (decide (A = B), σ) := by
  have h1 : seqOf (zz A) σ = some (zz A, σ) := rfl
  have h2 : seqOf (.ref b) σ = some (zz B, σ) := by show (getObj b >>= _) σ = _; rw [bq, getObj_run, hb]; rfl
  show (do
    let a ← seqOf (zz A)
    let b ← seqOf (.ref b)
    check (flat 6 a && flat 6 b)
    pure (V.beq a b) : M Bool) σ = _
  rw [bq, h1]
  dsimp only
  rw [bq, h2]
  dsimp only
  rw [bq, cq, flat_zz, flat_zz, beq_zz]
  rfl
theorem slice_trail {w : Wd} {k : Nat} (h : w.trail.length ≤ 1000) : sliceV (.ref 4) (some (.int k)) Option.none w.g = some (.lst ((w.trail.drop k).map en), w.g) := by
  have hg : seqOf (.ref 4) w.g = some (.lst (w.trail.map en), w.g) := rfl
  have hl : (w.trail.map en).length ≤ lim := by rw [List.length_map]; exact Nat.le_trans h (by decide)
  show (check (decide ((w.trail.map en).length ≤ lim)) >>= fun _ => check (decide ((0 : Int) ≤ k)) >>= fun _ => pure (V.lst ((w.trail.map en).drop (k : Int).toNat)) : M V) w.g = _
  rw [bq, cq, if_pos (decide_eq_true hl)]
  dsimp only
  rw [bq, cq, if_pos (decide_eq_true (Int.natCast_nonneg k)), List.map_drop]
  rfl
theorem tap_w {n : Nat} {w : Wd} {many : Nat} {b : Int} (hj : JB b w.jug) (hb : b ≤ 1000) (hm : 0 < many) : ∃ (t : Nat) (j : List Int), call (n + 1) (none, ("_law_tap" : Str)) [.ref 0, .int many] w.g = some (.int t, ({ w with jug := j } : Wd).g) ∧ t < many ∧ JB (b + 1) j := tap_run hj hb hm
theorem JB.mono {b b' : Int} {j : List Int} (h : JB b j) (hb : b ≤ b') : JB b' j := by
  refine el_EEAAA h fun c cells k1 k2 k3 k4 => ?_
  exact in_EEAAA c cells k1 k2 (by exact lini [_,_,_] (.h 1 0 (.v 0) (.v 1) (.h 1 0 (.v 2) (.v 0) (.g 1 0 (.v 2) (.v 1)))) rfl hb k3) k4
theorem ct_meth {σ : Sg} {tk : List Nat} {v : Int} {m : Nat} (h : σ[8]? = some (.fields (cfs tk v m))) : methV ctv (Str.ofString "strike_once") σ = some ((), σ) := by
  have hg : getObj 8 σ = some (.fields (cfs tk v m), σ) := by rw [getObj_run, h]
  unfold methV
  dsimp only
  rw [bq, hg]
  rfl
noncomputable def lawFd : Fd := (tab' (none, ("law" : Str))).getD default
theorem fin_run {w : Wd} {L : List (List Int)} {m T : Nat} {ρ : Rho} {Ls : List (List Int)} (I : Inv w L m T) (hT : T ≤ 500) (hm : m ≤ 400) (hk : w.mkv = .ref 5) (hk0 : w.marks = [0]) (hF : w.firsts.map mem = Ls) (hD : ∀ d ∈ w.firsts, WF d ∧ Bd d ∧ d ≠ [])
    (g1 : ρ "store" = some stv) (g2 : ρ "firsts" = some (zz Ls)) : Ends (exs prm (call 8) lawFd.scope ρ (lawFd.body.drop 9) w.g) fun fl _ _ => fl = .ret (.bool true) := by
  have h1 := I.tl
  have h2 := I.len
  refine el_EE (pop_run (n := 7) (m := 1) hk hk0 (by exact lin [_,_] (.h 1 0 (.v 0) (.c 500) (.h 1 0 (.v 1) (.v 0) (.g 1 1 (.v 1) (.c 900)))) rfl hT h1) (by exact lin [_,_] (.h 1 0 (.v 0) (.c 400) (.h 1 2 (.v 1) (.a (.v 0) (.c 1)) (.g 1 0 (.v 1) (.c 1000)))) rfl hm h2) I.tx rfl) fun nw rest e => ?_
  rw [I.un] at e
  have hany : (w.firsts.any fun d => decide (d = [])) = false := by
    rw [List.any_eq_false]
    intro d hd
    simpa using (hD d hd).2.2
  rw [hany] at e
  have hle : w.firsts.length ≤ 1000 := by
    have : (undo w.trail w.doms).length = w.doms.length := by
      generalize w.trail = t
      induction t with
      | nil => rfl
      | cons a r ih => show ((undo r w.doms).set _ _).length = _; rw [List.length_set, ih]
    rw [I.un] at this
    exact lin [_,_,_] (.h 1 0 (.v 0) (.c 400) (.h 1 2 (.v 1) (.a (.v 0) (.c 1)) (.h 1 2 (.v 2) (.v 1) (.g 1 0 (.v 2) (.c 1000))))) rfl hm h2 this
  generalize hw' : ({ w with mkv := .lst [], nw := nw, f := false, cl := .tup [], doms := w.firsts, trail := [], rest := rest } : Wd) = w' at e
  have hl : call 8 (none, ("_law_lists" : Str)) [stv] w'.g = some (zz Ls, w'.g) := by
    have hd : w'.doms = w.firsts := by rw [← hw']
    have := lists_run (n := 6) (w := w') (by rw [hd]; exact fun d h => ⟨(hD d h).1, (hD d h).2.1⟩) (by rw [hd]; exact hle)
    rw [show call 8 = call (6 + 2) from rfl, this, hd, zz, ← hF, List.map_map]
    rfl
  have hf : w'.f = false := by rw [← hw']
  have e' : call 8 (some (Str.ofString "Store"), ("pop" : Str)) [stv, .int 1] w.g = some (.none, w'.g) := e
  apply ends_expr (v := .none) (σ1 := w'.g)
  · simp! [↓q3, ↓q6, ↓q22f, eq_self, ↓qs1, ↓qs2, ↓bz, ob_s, pu, check_t, nr, Bool.and_true, List.length_cons, List.length_nil, Nat.reduceAdd, Nat.reduceLT, decide_true, g1, meth_st, e']
  · rfl
  apply ends_ret (v := .bool true) (σ1 := w'.g)
  · simp! [↓q6, ↓q7, ↓q9, ↓q16, ↓q17f, ↓q25f, cfu, eq_self, ↓qs1, ↓qs2, ↓qB2, ↓qC1, ↓bz, ob_s, pu, nr, Bool.false_eq_true, qtr, qc1, ↓reduceIte, List.isEmpty_cons, List.isEmpty_nil, Bool.and_true, Bool.not_false, decide_true, g1, g2, hl, eqV_zz, at_failed, hf]
  · rfl
end
section
open PySem
set_option maxRecDepth 100000
set_option backward.defeqAttrib.useBackward true
theorem Inv.wl {w : Wd} {L L1 L2 : List (List Int)} {m T : Nat} (I : Inv (wl w L1) L m T) : Inv (Mine.wl w L2) L m T := ⟨I.dl, I.wf, I.len, I.un, I.tx, I.nw, I.nn, I.tl⟩
theorem Same.wl {w w' : Wd} {L : List (List Int)} (h : Same (wl w L) w') : ∃ w2, w' = Mine.wl w2 L ∧ Same w w2 := by
  obtain ⟨h1, h2, h3, h4, g, h5⟩ := h
  refine ⟨{ w' with rest := w.rest ++ g }, ?_, h1, h2, h3, h4, g, rfl⟩
  obtain ⟨a, b, c, d, e, f, g', h, i, j, r⟩ := w'
  have : r = .list (L.map zs) :: (w.rest ++ g) := h5
  refine eq_l this ?_
  rfl
structure Lap (tk : List Nat) (v : Int) (m : Nat) (D : List Dom) (b : Int) (T : Nat) (w : Wd) (L : List (List Int)) : Prop where
  inv : Inv (wl w L) L m T
  ct : w.rest[0]? = some (.fields (cfs tk v m))
  mkv : w.mkv = .ref 5
  marks : w.marks = [0]
  fi : w.firsts = D
  jb : JB b w.jug
theorem Lap.same {tk : List Nat} {v : Int} {m : Nat} {D : List Dom} {b : Int} {T T' : Nat} {w w2 : Wd} {L L2 L3 : List (List Int)} (h : Lap tk v m D b T w L) (hs : Same w w2) (I : Inv (wl w2 L3) L2 m T') : Lap tk v m D b T' w2 L2 :=
  ⟨I.wl, hs.at h.ct, hs.mkv.trans h.mkv, hs.marks.trans h.marks, hs.firsts.trans h.fi, by rw [hs.jug]; exact h.jb⟩
theorem Lap.tap {tk : List Nat} {v : Int} {m : Nat} {D : List Dom} {b b' : Int} {T : Nat} {w : Wd} {L : List (List Int)} {j : List Int} (h : Lap tk v m D b T w L) (hj : JB b' j) : Lap tk v m D b' T { w with jug := j } L :=
  ⟨⟨h.inv.dl, h.inv.wf, h.inv.len, h.inv.un, h.inv.tx, h.inv.nw, h.inv.nn, h.inv.tl⟩, h.ct, h.mkv, h.marks, h.fi, hj⟩
theorem tap_wl {n : Nat} {w : Wd} {L : List (List Int)} {many : Nat} {b : Int} (hj : JB b w.jug) (hb : b ≤ 1000) (hm : 0 < many) : ∃ (t : Nat) (j : List Int), call (n + 1) (none, ("_law_tap" : Str)) [.ref 0, .int many] (wl w L).g = some (.int t, (wl { w with jug := j } L).g) ∧ t < many ∧ JB (b + 1) j := tap_run hj hb hm
theorem len_wl {w : Wd} {L : List (List Int)} : (wl w L).g.length = 8 + w.rest.length := by
  show (_ :: _ :: _ :: _ :: _ :: _ :: _ :: _ :: w.rest : Sg).length = _
  simp only [List.length_cons]; exact Nat.le_antisymm (lin [_] (.g 1 0 (.a (.a (.a (.a (.a (.a (.a (.a (.v 0) (.c 1)) (.c 1)) (.c 1)) (.c 1)) (.c 1)) (.c 1)) (.c 1)) (.c 1)) (.a (.c 8) (.v 0))) rfl) (lin [_] (.g 1 0 (.a (.c 8) (.v 0)) (.a (.a (.a (.a (.a (.a (.a (.a (.v 0) (.c 1)) (.c 1)) (.c 1)) (.c 1)) (.c 1)) (.c 1)) (.c 1)) (.c 1))) rfl)
theorem wl_get {w : Wd} {L : List (List Int)} {k : Nat} : (wl w L).g[8 + k]? = w.rest[k]? := by
  rw [Nat.add_comm]; rfl
set_option maxHeartbeats 1000000 in
theorem laps_run {w : Wd} {L : List (List Int)} {m : Nat} {ρ : Rho} {Ls : List (List Int)} {tk : List Nat} {v : Int} {D : List Dom} (P : Lap tk v m D 100 0 w L) (hf : w.f = false) (hm : m ≤ 400) (htk : tk.length ≤ 5) (hxm : ∀ x ∈ tk, x < m)
    (hm0 : 0 < m) (hF : D.map mem = Ls) (hD : ∀ d ∈ D, WF d ∧ Bd d ∧ d ≠ [])
    (r1 : ρ "store" = some stv) (r2 : ρ "firsts" = some (zz Ls)) (r3 : ρ "jug" = some (.ref 0)) (r4 : ρ "n" = some (.int m)) (r5 : ρ "taken" = some (ztk tk)) (r6 : ρ "value" = some (.int v)) (r7 : ρ "lists" = some (.ref 7)) (r8 : ρ "count" = some ctv) :
    Ends (exs prm (call 8) lawFd.scope ρ (lawFd.body.drop 8) (wl w L).g) fun fl _ _ => fl = .ret (.bool true) := by
  have htk' : tk.length ≤ 1000 := by exact lin [_] (.h 1 0 (.v 0) (.c 5) (.g 1 0 (.v 0) (.c 1000))) rfl htk
  apply ends_for (fun i : Nat => V.int (i : Int)) (List.range 3) (fun r ρ σ' => ρ "store" = some stv ∧ ρ "firsts" = some (zz Ls) ∧ ρ "jug" = some (.ref 0) ∧ ρ "n" = some (.int m) ∧ ρ "taken" = some (ztk tk) ∧ ρ "value" = some (.int v) ∧ ρ "lists" = some (.ref 7) ∧ ρ "count" = some ctv ∧
    ∃ (b : Int) (T : Nat) (w : Wd) (L : List (List Int)), σ' = (wl w L).g ∧ Lap tk v m D b T w L ∧ w.f = false ∧ T + 20 * r.length ≤ 100 ∧ b + 10 * r.length ≤ 200)
  · simp (disch := first | assumption | with_unfolding_all exact eqr _ _ rfl | exact ⟨lini [] (.g 1 0 (.u (.c 1000)) (.c 3)) rfl, lini [] (.g 1 0 (.c 3) (.c 100000)) rfl⟩ | (apply len_fm; assumption)) only [↓q3, ↓q25f, callN_range1, ↓qs1, ↓qs2, ↓bz, ob_s, pu]; rfl
  · exact walk_rng0 (k := 3) (by decide)
  · exact in_AAAAAA r1 r2 r3 r4 r5 r6 (in_AAEEEE r7 r8 100 0 w L (in_AAAA rfl P hf (by decide) (by decide)))
  · clear P hf r1 r2 r3 r4 r5 r6 r7 r8 ρ w L
    intro i r ρ σ' hri_
    refine el_AAAAAA hri_ fun g1 g2 g3 g4 g5 g6 hr1_ => ?_
    refine el_AAEEEE hr1_ fun g7 g8 b T w L hr2_ => ?_
    refine el_AAAA hr2_ fun hq12_ P hf hT hb => ?_
    refine eq_l hq12_ ?_
    rw [List.length_cons] at hT hb
    have I := P.inv
    have hFine := I.fine (by exact lin [_] (.h 1 0 (.v 0) (.c 400) (.g 1 0 (.v 0) (.c 500))) rfl hm)
    have htl : w.trail.length ≤ T := I.tl
    have hlenL := I.lenL
    have hlr : ∀ {cf sc}, isGlob sc (Str.ofString "len") = true → callN prm cf sc (Str.ofString "len") [.ref 4] (wl w L).g = some (.int w.trail.length, (wl w L).g) := fun {cf sc} hg => by
      have := len_ref (cf := cf) hg (σ := (wl w L).g) (l := 4) (xs := w.trail.map en) rfl (by rw [List.length_map]; exact Nat.le_trans (by exact lin [_,_,_] (.h 1 0 (.a (.v 0) (.m 20 (.a (.v 1) (.c 1)))) (.c 100) (.h 1 0 (.v 2) (.v 0) (.g 1 0 (.v 2) (.c 1000)))) rfl hr2_.2.2.2.1 htl : _ ≤ 1000) (by decide))
      rwa [List.length_map] at this
    refine in_EEA _ _ rfl ?_
    apply ends_asg (v := .int w.trail.length) (σ1 := (wl w L).g)
    · simp! [↓q6, ↓q17f, ↓q25f, eq_self, ↓qs1, ↓qs2, ↓bz, ob_s, pu, nr, ur, oj, ↓reduceIte, String.reduceEq, g1, at_trail, hlr]
    · rfl
    · rfl
    have eo := once_run (n := 7) (tk := tk) (v := v) (m := m) (l := 7) (wl_at (w := w) (L := L)) hFine.1 hFine.2 htk' hxm (by exact lin [_,_] (.h 1 3 (.v 0) (.a (.v 1) (.c 1)) (.g 1 1 (.v 1) (.v 0))) rfl hlenL)
    rw [len_wl] at eo
    generalize hw1 : ({ w with rest := w.rest ++ [.list ((onceF L tk v m).map zs)] } : Wd) = w1
    have eo' : call 8 (none, ("_law_once" : Str)) [.ref 7, ztk tk, .int v, .int m] (wl w L).g = some (.tup [.bool (onceD L tk v m), .ref (8 + w.rest.length)], (wl w1 L).g) := by rw [← hw1]; exact eo
    have hS1 : Same w w1 := by rw [← hw1]; exact ⟨rfl, rfl, rfl, rfl, _, rfl⟩
    have hf1 : w1.f = false := by rw [← hw1]; exact hf
    have htr1 : w1.trail = w.trail := by rw [← hw1]
    have hbe : w1.rest[w.rest.length]? = some (.list ((onceF L tk v m).map zs)) := by rw [← hw1]; simp
    have I1 : Inv (wl w1 L) L m T := by rw [← hw1]; exact ⟨I.dl, I.wf, I.len, I.un, I.tx, I.nw, I.nn, I.tl⟩
    have P1 : Lap tk v m D b T w1 L := P.same hS1 I1
    clear eo hw1
    apply ends_asg (v := .tup [.bool (onceD L tk v m), .ref (8 + w.rest.length)]) (σ1 := (wl w1 L).g)
    · simp! [↓q6, ↓q25f, cfu, eq_self, ↓qs1, ↓qs2, ↓bz, ob_s, pu, nr, ur, oj, ↓reduceIte, String.reduceEq, g4, g5, g6, g7, eo']
    · rfl
    · rfl
    have h8 : (wl w1 L).g[8]? = some (.fields (cfs tk v m)) := P1.ct
    refine el_EEAAEE (strike_once_run (n := 2) (w := wl w1 L) I1 hm (by exact lin [_,_] (.h 1 0 (.a (.v 0) (.m 20 (.a (.v 1) (.c 1)))) (.c 100) (.g 1 0 (.v 0) (.c 400))) rfl hr2_.2.2.2.1) htk hxm hf1 h8) fun due w' es1 hdue es L' ho => ?_
    have es1' : call 8 (some (Str.ofString "Count"), ("strike_once" : Str)) [ctv, stv] (wl w1 L).g = some (.bool due, w'.g) := es1
    rw [← hdue]
    clear es1
    rcases ho with ⟨rfl, hL', S⟩ | ⟨rfl, cl, Fl, hcn, hch, hcw⟩
    · refine el_EA S.same.wl fun w2 hq1_ hS2 => ?_
      subst hq1_
      have htr : w2.trail = w.trail ++ es := by rw [← htr1]; exact S.tr
      have hI2 := S.inv
      have htl2 : w2.trail.length ≤ T + 7 := hI2.tl
      have hesl : es.length ≤ 1000 := by rw [htr, List.length_append] at htl2; exact lin [_,_,_,_] (.h 1 0 (.a (.v 0) (.m 20 (.a (.v 1) (.c 1)))) (.c 100) (.h 1 0 (.a (.v 2) (.v 3)) (.a (.v 0) (.c 7)) (.g 1 0 (.v 3) (.c 1000)))) rfl hr2_.2.2.2.1 htl2
      have hnf : w2.f = false := S.nf
      have er := right_run (n := 4) (w := w2) (due := true) S.good hFine htk hesl (.inl ⟨rfl, hnf⟩)
      have er' : call 8 (none, ("_law_is_right" : Str)) [stv, .lst (es.map en), .ref 7, .tup [ztk tk, .int v, .int m], .bool true] (wl w2 L).g = some (.bool true, (wl w2 L').g) := er
      have esl := slice_trail (w := wl w2 L) (k := w.trail.length) (Nat.le_trans htl2 (by exact lin [_,_] (.h 1 0 (.a (.v 0) (.m 20 (.a (.v 1) (.c 1)))) (.c 100) (.g 1 0 (.a (.v 0) (.c 7)) (.c 1000))) rfl hr2_.2.2.2.1))
      rw [show (wl w2 L).trail = w.trail ++ es from htr, List.drop_left] at esl
      apply eif (σ1 := (wl w2 L).g)
      · simp! [↓q6, ↓q22f, eq_self, ↓qs1, ↓qs2, ↓qC1, ↓qt5, ↓bz, ob_s, pu, check_t, nr, qb1, qb2, ur, oj, qc9, ↓reduceIte, List.isEmpty_nil, Bool.and_true, List.length_cons, List.length_nil, Nat.reduceAdd, Nat.reduceLT, decide_true, String.reduceEq, g8, ct_meth h8, g1, es1']
        rfl
      apply eif (σ1 := (wl w2 L').g)
      · simp! [↓q6, ↓q14, ↓q19, ↓q17f, ↓q25f, cfu, lim_3, eq_self, ↓qs1, ↓qs2, ↓qt1, ↓qt7, ↓bz, ob_s, pu, check_t, nr, qb1, qb2, ur, oj, qtr, ↓reduceIte, Bool.not_true, List.length_cons, List.length_nil, Nat.zero_add, Nat.reduceAdd, String.reduceEq, g1, g4, g5, g6, g7, at_trail, esl, er']
      apply eif (σ1 := (wl w2 L').g)
      · simp! [↓q6, eq_self, ↓qt1, ↓qt6, ↓bz, ob_s, pu, nr, qb1, qb2, ur, oj, qtr, ↓reduceIte, Bool.not_true, String.reduceEq]
      have P2 : Lap tk v m D b (T + 7) w2 L' := P1.same hS2 hI2
      have hbe2 : (wl w2 L').g[8 + w.rest.length]? = some (.list (L'.map zs)) := by
        rw [wl_get, hL']; exact hS2.at hbe
      have eq1 := eqV_rr (wl_at (w := w2) (L := L')) hbe2
      have eq2 := eqV_zr (A := L') hbe2
      have hl2 := P2.inv.len
      have ell : call 8 (none, ("_law_lists" : Str)) [stv] (wl w2 L').g = some (zz L', (wl w2 L').g) := by
        have := lists_run (n := 6) (w := wl w2 L') (fun d h => ⟨(P2.inv.wf d h).1, (P2.inv.wf d h).2.1⟩) (by exact lin [_,_] (.h 1 0 (.v 0) (.c 400) (.h 1 2 (.v 1) (.a (.v 0) (.c 1)) (.g 1 0 (.v 1) (.c 1000)))) rfl hm hl2)
        rw [show call 8 = call (6 + 2) from rfl, this, zz, ← P2.inv.dl, List.map_map]
        rfl
      apply eif (σ1 := (wl w2 L').g)
      · simp! [↓q6, ↓q25f, cfu, eq_self, ↓qs1, ↓qs2, ↓qC1, ↓qt3, ↓qt5, ↓qtB1, ↓qtB2, ↓bz, ob_s, pu, nr, qb1, qb2, ur, oj, qc2, ↓reduceIte, List.isEmpty_nil, Bool.and_true, Bool.not_true, decide_true, String.reduceEq, g1, g7, eq1, eq2, ell]
        rfl
      refine el_EEAA (tap_wl (n := 7) (w := w2) (L := L') (many := m) P2.jb (by exact lini [b,((r.length : Nat) : Int)] (.h 1 0 (.a (.v 0) (.m 10 (.a (.v 1) (.c 1)))) (.c 200) (.h 10 0 (.c 0) (.v 1) (.g 1 0 (.v 0) (.c 1000)))) rfl hr2_.2.2.2.2 (Int.natCast_nonneg _)) hm0) fun x j3 et3 hx3 hj3 => ?_
      refine el_EEAA (tap_wl (n := 7) (w := { w2 with jug := j3 }) (L := L') (many := 2) hj3 (by exact lini [b,((r.length : Nat) : Int)] (.h 1 0 (.a (.v 0) (.m 10 (.a (.v 1) (.c 1)))) (.c 200) (.h 10 0 (.c 0) (.v 1) (.g 1 0 (.a (.v 0) (.c 1)) (.c 1000)))) rfl hr2_.2.2.2.2 (Int.natCast_nonneg _)) (by decide)) fun t4 j4 et4 ht4 hj4 => ?_
      have hxm' : x ≤ m := Nat.le_of_lt hx3
      have hsx := P2.inv.srt hxm'
      have hlp : 0 < (L'.getD x []).length := List.length_pos_iff.mpr hsx.2.1
      refine el_EEAA (tap_wl (n := 7) (w := { w2 with jug := j4 }) (L := L') (many := (L'.getD x []).length) hj4 (by exact lini [b,((r.length : Nat) : Int)] (.h 1 0 (.a (.v 0) (.m 10 (.a (.v 1) (.c 1)))) (.c 200) (.h 10 0 (.c 0) (.v 1) (.g 1 0 (.a (.a (.v 0) (.c 1)) (.c 1)) (.c 1000)))) rfl hr2_.2.2.2.2 (Int.natCast_nonneg _)) hlp) fun t5 j5 et5 ht5 hj5 => ?_
      have et3' : call 8 (none, ("_law_tap" : Str)) [.ref 0, .int m] (wl w2 L').g = some (.int x, (wl { w2 with jug := j3 } L').g) := et3
      have et4' : call 8 (none, ("_law_tap" : Str)) [.ref 0, .int 2] (wl { w2 with jug := j3 } L').g = some (.int t4, (wl { w2 with jug := j4 } L').g) := et4
      have et5' : call 8 (none, ("_law_tap" : Str)) [.ref 0, .int (L'.getD x []).length] (wl { w2 with jug := j4 } L').g = some (.int t5, (wl { w2 with jug := j5 } L').g) := et5
      have P3 : Lap tk v m D (b + 3) (T + 7) { w2 with jug := j5 } L' := P2.tap (JB.mono hj5 (by exact lini [_] (.g 1 0 (.a (.a (.a (.v 0) (.c 1)) (.c 1)) (.c 1)) (.a (.v 0) (.c 3))) rfl))
      have hnf5 : ({ w2 with jug := j5 } : Wd).f = false := hnf
      clear et3 et4 et5 hj3 hj4 hj5
      generalize ({ w2 with jug := j3 } : Wd) = w3 at et3' et4'
      generalize ({ w2 with jug := j4 } : Wd) = w4 at et4' et5'
      generalize ({ w2 with jug := j5 } : Wd) = w5 at et5' P3 hnf5
      obtain ⟨s, hs⟩ : ∃ s : Sn, ∀ σ, idxV (.tup [.str ("=" : Str), .str ("!=" : Str)]) (.int t4) σ = some (sgn s, σ) := by
        have h2 : ([.str ("=" : Str), .str ("!=" : Str)] : List V).length ≤ lim := by decide
        match t4, ht4 with
        | 0, _ => exact ⟨.eq, fun σ => idx_at (i := 0) rfl h2⟩
        | 1, _ => exact ⟨.ne, fun σ => idx_at (i := 1) rfl h2⟩
      have hFine' := P3.inv.fine (by exact lin [_] (.h 1 0 (.v 0) (.c 400) (.g 1 0 (.v 0) (.c 500))) rfl hm)
      have hlenL' := P3.inv.lenL
      have hL'l : L'.length ≤ lim := Nat.le_trans hFine'.1 (by decide)
      have hxL' : x < L'.length := by exact lin [_,_,_] (.h 1 1 (.v 0) (.v 1) (.h 1 3 (.v 2) (.a (.v 1) (.c 1)) (.g 1 1 (.v 0) (.v 2)))) rfl hx3 hlenL'
      have hat := hFine'.at x
      have hi3 := idx_L (wl_at (w := w3) (L := L')) hxL' hL'l
      have hi4 := idx_L (wl_at (w := w4) (L := L')) hxL' hL'l
      have hi5 := idx_L (wl_at (w := w5) (L := L')) hxL' hL'l
      have hu5 := idx_zs_at (σ := (wl w5 L').g) ht5 hat
      generalize hu : (L'.getD x []).getD t5 0 = u at hu5
      apply ends_asg (v := .int x) (σ1 := (wl w3 L').g)
      · simp! [↓q6, ↓q25f, cfu, eq_self, ↓qs1, ↓qs2, ↓bz, ob_s, pu, nr, qb1, qb2, ur, oj, ↓reduceIte, String.reduceEq, g3, g4, et3']
      · rfl
      · rfl
      apply ends_asg (v := lit ⟨x, s, u⟩) (σ1 := (wl w5 L').g)
      · simp! [↓q3, ↓q4, ↓q6, ↓q14, ↓q21f, ↓q25f, cfu, lim_2, lim_3, eq_self, ↓qs1, ↓qs2, ↓bz, ob_s, pu, check_t, nr, qb1, qb2, ur, oj, ↓reduceIte, List.length_cons, List.length_nil, Nat.zero_add, Nat.reduceAdd, String.reduceEq, g3, g7, et4', hs, hi4, callN_len_zs, et5', hu5]
        rfl
      · rfl
      · rfl
      have hfit := fun (n : Nat) (σ : Sg) => fit1_run (n := n) (l := ⟨x, s, u⟩) (x := (x : Int)) (σ := σ) hat
      have hfc : fit (L'.getD x []) [⟨x, s, u⟩] x = cut L' ⟨x, s, u⟩ := fit_one
      rw [hfc] at hfit
      by_cases hc : cut L' ⟨x, s, u⟩ = []
      · apply eif (σ1 := (wl w5 L').g)
        · simp! [↓q6, ↓q13, ↓q21f, ↓q25f, cfu, eq_self, ↓qs1, ↓qs2, ↓qC1, ↓qt5, ↓bz, ob_s, pu, nr, qb1, qb2, ur, oj, qc2, ↓reduceIte, List.isEmpty_nil, Bool.and_true, Bool.not_true, String.reduceEq, g7, hi5, mkL_f0, mkL_f1, hfit, eqV_zs_nil, decide_eq_true hc]
        apply ends_nil
        exact in_AAAAAA rfl g1 g2 g3 g4 g5 (in_AAAEEE g6 g7 g8 _ _ w5 (in_EAAAA L' rfl P3 hnf5 (by exact lin [_,_] (.h 1 0 (.a (.v 0) (.m 20 (.a (.v 1) (.c 1)))) (.c 100) (.g 1 0 (.a (.a (.v 0) (.c 7)) (.m 20 (.v 1))) (.c 100))) rfl hr2_.2.2.2.1) (by exact lini [_,_] (.h 1 0 (.a (.v 0) (.m 10 (.a (.v 1) (.c 1)))) (.c 200) (.g 1 0 (.a (.a (.v 0) (.c 3)) (.m 10 (.v 1))) (.c 200))) rfl hr2_.2.2.2.2)))
      · have I5 := P3.inv
        refine el_EEAA (decide_took (n := 3) (l := ⟨x, s, u⟩) I5 hxm' (by exact lin [_] (.h 1 0 (.v 0) (.c 400) (.g 1 0 (.v 0) (.c 500))) rfl hm) (by exact lin [_,_] (.h 1 0 (.a (.v 0) (.m 20 (.a (.v 1) (.c 1)))) (.c 100) (.g 1 0 (.a (.v 0) (.c 7)) (.c 500))) rfl hr2_.2.2.2.1)) fun b6 w6 e6 hS6 ht => ?_
        rcases ht with ⟨h0, -⟩ | ⟨-, rfl, hf6, I6, -⟩
        · exact absurd h0 hc
        refine el_EA hS6.wl fun w7 hq1_ hS7 => ?_
        subst hq1_
        have e6' : call 8 (some (Str.ofString "Store"), ("decide" : Str)) [stv, lit ⟨x, s, u⟩] (wl w5 L').g = some (.bool true, (wl w7 L').g) := e6
        have hi7 := idx_L (wl_at (w := w7) (L := L')) hxL' hL'l
        apply ends_if_t (σ1 := (wl w5 L').g)
        · simp! [↓q6, ↓q13, ↓q21f, ↓q25f, cfu, eq_self, ↓qs1, ↓qs2, ↓qC1, ↓qt5, ↓bz, ob_s, pu, nr, qb1, qb2, ur, oj, qc2, ↓reduceIte, List.isEmpty_nil, Bool.and_true, Bool.not_false, String.reduceEq, g7, hi5, mkL_f0, mkL_f1, hfit, eqV_zs_nil, decide_eq_false hc]
        apply ends_expr (v := .bool true) (σ1 := (wl w7 L').g)
        · simp! [↓q6, ↓q22f, eq_self, ↓qs1, ↓qs2, ↓bz, ob_s, pu, check_t, nr, qb1, qb2, ur, oj, ↓reduceIte, Bool.and_true, List.length_cons, List.length_nil, Nat.reduceAdd, Nat.reduceLT, decide_true, String.reduceEq, g1, meth_st, e6']
        · rfl
        apply ends_asg (v := zs (cut L' ⟨x, s, u⟩)) (σ1 := (wl w7 L').g) (σ' := (wl w7 (L'.set x (cut L' ⟨x, s, u⟩))).g)
        · simp! [↓q6, ↓q13, ↓q21f, ↓q25f, cfu, eq_self, ↓qs1, ↓qs2, ↓bz, ob_s, pu, nr, qb1, qb2, ur, oj, ↓reduceIte, String.reduceEq, g7, hi7, mkL_f1, hfit]
        · rfl
        · simp! [↓q6, eq_self, ↓qa6f, ↓bz, ob_s, pu, nr, qb1, qb2, ur, oj, ↓reduceIte, String.reduceEq, g7, wl_set hxL' hL'l]
          rfl
        apply ends_nil
        apply ends_nil
        have hf7 : w7.f = false := hf6.trans hnf5
        exact in_AAAAAA rfl g1 g2 g3 g4 g5 (in_AAAEEE g6 g7 g8 _ _ w7 (in_EAAAA _ rfl (P3.same hS7 I6) hf7 (by exact lin [_,_] (.h 1 0 (.a (.v 0) (.m 20 (.a (.v 1) (.c 1)))) (.c 100) (.g 1 0 (.a (.a (.a (.v 0) (.c 7)) (.c 1)) (.m 20 (.v 1))) (.c 100))) rfl hr2_.2.2.2.1) (by exact lini [_,_] (.h 1 0 (.a (.v 0) (.m 10 (.a (.v 1) (.c 1)))) (.c 200) (.g 1 0 (.a (.a (.v 0) (.c 3)) (.m 10 (.v 1))) (.c 200))) rfl hr2_.2.2.2.2)))
    · refine el_EA Fl.same.wl fun w2 hq1_ hS2 => ?_
      subst hq1_
      have htr : w2.trail = w.trail ++ es := by rw [← htr1]; exact Fl.tr
      have hI2 := Fl.inv
      have htl2 : w2.trail.length ≤ T + 7 := hI2.tl
      have hesl : es.length ≤ 1000 := by rw [htr, List.length_append] at htl2; exact lin [_,_,_,_] (.h 1 0 (.a (.v 0) (.m 20 (.a (.v 1) (.c 1)))) (.c 100) (.h 1 0 (.a (.v 2) (.v 3)) (.a (.v 0) (.c 7)) (.g 1 0 (.v 3) (.c 1000)))) rfl hr2_.2.2.2.1 htl2
      have er := right_run (n := 4) (w := w2) (due := false) Fl.good hFine htk hesl (.inr ⟨rfl, Fl.nf, cl, Fl.cl, hcn, hch, hcw⟩)
      have er' : call 8 (none, ("_law_is_right" : Str)) [stv, .lst (es.map en), .ref 7, .tup [ztk tk, .int v, .int m], .bool false] (wl w2 L).g = some (.bool true, (wl w2 L').g) := er
      have esl := slice_trail (w := wl w2 L) (k := w.trail.length) (Nat.le_trans htl2 (by exact lin [_,_] (.h 1 0 (.a (.v 0) (.m 20 (.a (.v 1) (.c 1)))) (.c 100) (.g 1 0 (.a (.v 0) (.c 7)) (.c 1000))) rfl hr2_.2.2.2.1))
      rw [show (wl w2 L).trail = w.trail ++ es from htr, List.drop_left] at esl
      apply eif (σ1 := (wl w2 L).g)
      · simp! [↓q6, ↓q22f, eq_self, ↓qs1, ↓qs2, ↓qC1, ↓qt5, ↓bz, ob_s, pu, check_t, nr, qb1, qb2, ur, oj, qc9, ↓reduceIte, List.isEmpty_nil, Bool.and_true, List.length_cons, List.length_nil, Nat.reduceAdd, Nat.reduceLT, decide_true, String.reduceEq, g8, ct_meth h8, g1, es1']
        rfl
      apply eif (σ1 := (wl w2 L').g)
      · simp! [↓q6, ↓q14, ↓q19, ↓q17f, ↓q25f, cfu, lim_3, eq_self, ↓qs1, ↓qs2, ↓qt1, ↓qt7, ↓bz, ob_s, pu, check_t, nr, qb1, qb2, ur, oj, qtr, ↓reduceIte, Bool.not_true, List.length_cons, List.length_nil, Nat.zero_add, Nat.reduceAdd, String.reduceEq, g1, g4, g5, g6, g7, at_trail, esl, er']
      apply ends_if_t (σ1 := (wl w2 L').g)
      · simp! [↓q6, eq_self, ↓qt1, ↓qt6, ↓bz, ob_s, pu, nr, qb1, qb2, ur, oj, qtr, ↓reduceIte, Bool.not_false, String.reduceEq]
      apply ends_brk
      have P2 : Lap tk v m D b (T + 7) w2 L' := P1.same hS2 hI2
      exact fin_run (Ls := Ls) P2.inv (by exact lin [_,_] (.h 1 0 (.a (.v 0) (.m 20 (.a (.v 1) (.c 1)))) (.c 100) (.g 1 0 (.a (.v 0) (.c 7)) (.c 500))) rfl hr2_.2.2.2.1) hm P2.mkv P2.marks (by rw [show (wl w2 L').firsts = D from P2.fi]; exact hF) (by rw [show (wl w2 L').firsts = D from P2.fi]; exact hD) (by exact g1) (by exact g2)
  · intro ρ σ' hri_
    refine el_AAAAAA hri_ fun g1 g2 g3 g4 g5 g6 hr1_ => ?_
    refine el_AAEEEE hr1_ fun g7 g8 b T w L hr2_ => ?_
    refine el_AAAA hr2_ fun hq12_ P hf hT hb => ?_
    refine eq_l hq12_ ?_
    exact fin_run (Ls := Ls) P.inv (by exact lin [_] (.h 1 0 (.a (.v 0) (.m 20 (.c 0))) (.c 100) (.g 1 0 (.v 0) (.c 500))) rfl hr2_.2.2.2.1) hm P.mkv P.marks (by rw [show (wl w L).firsts = D from P.fi]; exact hF) (by rw [show (wl w L).firsts = D from P.fi]; exact hD) g1 g2
end
section
open PySem
set_option maxRecDepth 100000
set_option backward.defeqAttrib.useBackward true
section
variable {P : Prm} {cf : CF} {sc : Scope} {ρ : Rho} {σ σ1 : Sg} {Q : Fl → Rho → Sg → Prop}
theorem ends_set_c {α : Type} {elt t iter : Expr} {scope : Scope} {pos pos' posn : Pos} {x : V} {y : Str} {r : List Stmt} (g : α → V) (xs : List α) (J : List α → List V → Sg → Prop) (I : Rho → Prop) (ho : isOwn sc y = true) (htr : P.tr pos = false)
    (hok : (scopeOk scope && freesOk sc scope) = true)
    (hx : ev P cf sc ρ iter σ = some (x, σ1)) (hw : walkV x σ1 = some ((xs.map g, none), σ1)) (h0 : I (compRho scope ρ)) (hJ0 : J xs [] σ1) (hlen : xs.length ≤ lim)
    (hstep : ∀ a r acc ρ σ, J (a :: r) acc σ → I ρ → ∃ ρ' v σ', asgT scope t (g a) ρ σ = some (ρ', σ) ∧ I ρ' ∧ ev P cf scope ρ' elt σ = some (v, σ') ∧ J r (acc ++ [v]) σ')
    (hR : ∀ acc σ', acc.length = xs.length → J [] acc σ' → Ends (exs P cf sc (upd ρ y (.lst acc)) r σ') Q) :
    Ends (exs P cf sc ρ (.Assign [.Name y posn] (.ListComp elt [⟨t, iter, [], 0⟩] scope pos) pos' :: r) σ) Q := by
  refine el_EEAA (ev_comp_s (elt := elt) (pos := pos) g xs J I hok hx hw h0 hJ0 hlen hstep) fun acc σ' h1 h2 h3 => ?_
  exact ends_set (h3.trans (mkL_f htr (by exact lin [_,_] (.h 1 0 (.v 0) (.c 1000000) (.h 1 2 (.v 1) (.v 0) (.g 1 0 (.v 1) (.c 1000000)))) rfl hlen h1))) ho (hR acc σ' h1 h2)
theorem ends_set_cadd {α : Type} {elt t iter e2 : Expr} {scope : Scope} {pos pos' posn posb : Pos} {x : V} {y : Str} {r : List Stmt} (g : α → V) (xs : List α) (J : List α → List V → Sg → Prop) (I : Rho → Prop) (ho : isOwn sc y = true) (htr : P.tr pos = false) (htb : P.tr posb = false)
    (hok : (scopeOk scope && freesOk sc scope) = true)
    (hx : ev P cf sc ρ iter σ = some (x, σ1)) (hw : walkV x σ1 = some ((xs.map g, none), σ1)) (h0 : I (compRho scope ρ)) (hJ0 : J xs [] σ1) (hlen : xs.length ≤ lim)
    (hstep : ∀ a r acc ρ σ, J (a :: r) acc σ → I ρ → ∃ ρ' v σ', asgT scope t (g a) ρ σ = some (ρ', σ) ∧ I ρ' ∧ ev P cf scope ρ' elt σ = some (v, σ') ∧ J r (acc ++ [v]) σ')
    (hR : ∀ acc σ', acc.length = xs.length → J [] acc σ' → ∃ ys σ2, ev P cf sc ρ e2 σ' = some (.lst ys, σ2) ∧ acc.length + ys.length ≤ lim ∧ Ends (exs P cf sc (upd ρ y (.lst (acc ++ ys))) r σ2) Q) :
    Ends (exs P cf sc ρ (.Assign [.Name y posn] (.BinOp (.ListComp elt [⟨t, iter, [], 0⟩] scope pos) .Add e2 posb) pos' :: r) σ) Q := by
  refine el_EEAA (ev_comp_s (elt := elt) (pos := pos) g xs J I hok hx hw h0 hJ0 hlen hstep) fun acc σ' h1 h2 h3 => ?_
  refine el_EEAA (hR acc σ' h1 h2) fun ys σ2 h4 h5 h6 => ?_
  refine ends_set (σ1 := σ2) (v := .lst (acc ++ ys)) ?_ ho h6
  rw [q8, bq, h3, mkL_f htr (by exact lin [_,_] (.h 1 0 (.a (.v 0) (.v 1)) (.c 1000000) (.g 1 0 (.v 0) (.c 1000000))) rfl h5)]
  dsimp only
  rw [bq, h4]
  dsimp only
  exact binV_addl htb h5
theorem callN_cls {vs : List V} {c : String} {σ σ' : Sg} (hg : isGlob sc (Str.ofString c) = true) (hb : builtinsCalled.contains (Str.ofString c) = false) (hc : prm.classes.contains (Str.ofString c) = true)
    (h2 : cf (some (Str.ofString c), ("__init__" : Str)) (.inst (Str.ofString c) σ.length :: vs) (σ ++ [.fields []]) = some (.none, σ')) : callN prm cf sc (Str.ofString c) vs σ = some (.inst (Str.ofString c) σ.length, σ') := by
  unfold callN
  rw [bq, cq, if_pos hg]
  dsimp only
  rw [if_neg (by rw [hb]; exact Bool.false_ne_true), if_pos hc, bq, newObj_run]
  dsimp only
  rw [bq, h2]
  rfl
end
theorem ev_jug {cf : CF} {sc : Scope} {ρ : Rho} {a b : Expr} {pos : Pos} {σ : Sg} {xs ys : List V} (ht : prm.tr pos = true) (h1 : ev prm cf sc ρ a σ = some (.lst xs, σ)) (h2 : ev prm cf sc ρ b σ = some (.lst ys, σ)) (hl : (xs ++ ys).length ≤ lim) :
    ev prm cf sc ρ (.BinOp a .Add b pos) σ = some (.ref σ.length, σ ++ [.list (xs ++ ys)]) := by
  rw [q8, bq, h1]
  dsimp only
  rw [bq, h2]
  dsimp only
  rw [ht]
  show (check (decide ((xs ++ ys).length ≤ lim)) >>= fun _ => (newObj (.list (xs ++ ys)) >>= fun l => pure (V.ref l)) : M V) σ = _
  rw [bq, cq, if_pos (decide_eq_true hl)]
  rfl
theorem law_0 {ns : List Int} (h : ns.length ≤ 63) {Q : Fl → Rho → Sg → Prop} {ρ : Rho} (hρ : ρ "script" = some (.lst (ns.map .int)))
    (hn : ∀ jug, JB 0 jug → Ends (exs prm (call 8) lawFd.scope (upd (upd ρ "jug" (.ref 0)) "store" stv) (lawFd.body.drop 1) (w0 jug).g) Q) :
    Ends (exs prm (call 8) lawFd.scope ρ (lawFd.body.drop 0) []) Q := by
  have hl1 : (ns.map V.int).length ≤ lim := by rw [List.length_map]; exact Nat.le_trans h (by decide)
  have hl2 : (ns.take 50).length ≤ 50 := by rw [List.length_take]; lia
  have hl3 : (ns.take 50).length ≤ lim := Nat.le_trans hl2 (by decide)
  have hl4 : (((ns.take 50).map fun c => c % 5040).map V.int).length ≤ lim := by simpa using hl3
  have hl5 : ([V.int 0] ++ ((ns.take 50).map fun c => c % 5040).map V.int).length ≤ lim := by
    rw [List.length_append, List.length_map, List.length_map]
    exact Nat.le_trans (by simp only [List.length_singleton]; exact lin [_] (.h 1 0 (.v 0) (.c 50) (.g 1 0 (.a (.c 1) (.v 0)) (.c 51))) rfl hl2 : _ ≤ 51) (by decide)
  apply ends_asg (v := .tup [.ref 0, stv]) (σ1 := (w0 (0 :: (ns.take 50).map fun c => c % 5040)).g)
  · rw [q14, bq, qs2, bq]
    rw [ev_jug (xs := [.int 0]) (ys := ((ns.take 50).map fun c => c % 5040).map V.int) (by rfl) ?_ ?_ hl5]
    · have hs : callN prm (call 8) lawFd.scope (Str.ofString "Store") [] ([] ++ [MObj.list ([V.int 0] ++ ((ns.take 50).map fun c => c % 5040).map V.int)]) = some (stv, (w0 (0 :: (ns.take 50).map fun c => c % 5040)).g) :=
        callN_cls (by rfl) (by rfl) (by rfl) (store_init (n := 7) (jug := 0 :: (ns.take 50).map fun c => c % 5040))
      generalize ([] ++ [MObj.list ([V.int 0] ++ ((ns.take 50).map fun c => c % 5040).map V.int)] : Sg) = S at *
      simp! [↓q25f, lim_2, eq_self, ↓qs1, ↓qs2, ↓bz, ob_s, pu, check_t, List.length_cons, List.length_nil, Nat.zero_add, Nat.reduceAdd, hs]
    · simp! [↓q3, ↓q13, eq_self, ↓qs1, ↓qs2, ↓bz, ob_s, pu, mkL_f1]
    · have hsl : sliceV (.lst (ns.map V.int)) Option.none (some (.int 50)) [] = some (.lst ((ns.take 50).map V.int), []) := by
        show (check (decide ((ns.map V.int).length ≤ lim)) >>= fun _ => pure (V.lst ((ns.map V.int).take 50)) : M V) [] = _
        rw [bq, cq, if_pos (decide_eq_true hl1), List.map_take]
        rfl
      have hw : walkV (.lst ((ns.take 50).map V.int)) [] = some (((ns.take 50).map V.int, none), []) := walk_zs hl3
      rw [ev_comp1 (σ := []) (σ1 := []) V.int (ns.take 50) (fun _ => true) (fun c => V.int (c % 5040)) (fun _ => True) rfl (by simp! [↓q3, ↓q6, ↓q18, eq_self, ↓bz, ob_s, pu, nr, hρ, hsl]) hw rfl trivial hl3]
      · rw [show ((ns.take 50).filter fun _ => true) = ns.take 50 by simp]
        refine (mkL_f (by rfl) (by rw [List.length_map]; exact hl3)).trans ?_
        rw [List.map_map]
        rfl
      · intro c hc ρ _
        exact in_EAAA _ rfl trivial (by simp! [eq_self, ↓qtA1, pu]) (fun _ => by simp! [↓q3, ↓q6, ↓q8, ↓q25f, callN_int, eq_self, ↓qs1, ↓qs2, ↓bz, ob_s, pu, nr, ur, binV_mod, ↓reduceIte])
  · rfl
  · rfl
  exact hn _ ⟨0, _, rfl, by decide, by decide, by simpa using hl2⟩
noncomputable def Gd (xs : List Int) : Prop := xs ≠ [] ∧ xs.Pairwise (· < ·) ∧ xs.length ≤ 3 ∧ ∀ z ∈ xs, -2 ≤ z ∧ z < 9
theorem Gd.join {xs : List Int} (h : Gd xs) : (xs.filter fun v => !decide (v - 1 ∈ xs)).length = (xs.filter fun v => !decide (v + 1 ∈ xs)).length ∧ mem (joinD xs) = xs ∧ WF (joinD xs) ∧ Bd (joinD xs) ∧ joinD xs ≠ [] := joinD_good h.1 h.2.1 h.2.2.1 h.2.2.2
theorem drawn_w {n : Nat} {w : Wd} {many less : Nat} {b : Int} (hj : JB b w.jug) (hb : b ≤ 900) (hm : 0 < many) (hm9 : many ≤ 9) (hl2 : less ≤ 2) : ∃ (xs : List Int) (j : List Int), call (n + 2) (none, ("_law_drawn" : Str)) [.ref 0, .int many, .int less] w.g = some (zs xs, ({ w with jug := j } : Wd).g) ∧ JB (b + 4) j ∧ Gd xs := by
  refine el_EEAAAAA (drawn_run (n := n) (less := less) (σ' := w.g.tail) hj hb hm) fun xs j e h1 h2 h3 h4 h5 => ?_
  exact in_EEAAAAA xs j e h1 h2 h3 h4 (fun z hz => by have := h5 z hz; exact ⟨lini [_,_] (.h 1 0 (.u (.v 0)) (.v 1) (.h 1 0 (.v 0) (.c 2) (.g 1 0 (.u (.c 2)) (.v 1)))) rfl this.1 (Int.ofNat_le.mpr hl2), lini [_,_,_] (.h 1 1 (.v 0) (.s (.v 1) (.v 2)) (.h 1 0 (.v 1) (.c 9) (.h 1 0 (.c 0) (.v 2) (.g 1 1 (.v 0) (.c 9))))) rfl this.2 (Int.ofNat_le.mpr hm9) (Int.natCast_nonneg _)⟩)
theorem law_1 {Q : Fl → Rho → Sg → Prop} {ρ : Rho} {jug : List Int} (hj : JB 0 jug) (h1 : ρ "jug" = some (.ref 0))
    (hn : ∀ (m : Nat) Ls j, 2 ≤ m → m ≤ 4 → Ls.length = m + 1 → (∀ xs ∈ Ls, Gd xs) → JB 30 j → Ends (exs prm (call 8) lawFd.scope (upd (upd ρ "n" (.int m)) "firsts" (zz Ls)) (lawFd.body.drop 3) (w0 j).g) Q) :
    Ends (exs prm (call 8) lawFd.scope ρ (lawFd.body.drop 1) (w0 jug).g) Q := by
  refine el_EEAA (tap_w (n := 7) (w := w0 jug) (many := 3) hj (by exact lini [] (.g 1 0 (.c 0) (.c 1000)) rfl) (by decide)) fun t j e ht hj1 => ?_
  have e' : call 8 (none, ("_law_tap" : Str)) [.ref 0, .int 3] (w0 jug).g = some (.int t, (w0 j).g) := e
  have hm4 : 2 + t ≤ 4 := by exact lin [_] (.h 1 1 (.v 0) (.c 3) (.g 1 0 (.a (.c 2) (.v 0)) (.c 4))) rfl ht
  have hm2 : 2 ≤ 2 + t := by exact lin [_] (.g 1 0 (.c 2) (.a (.c 2) (.v 0))) rfl
  have hadd : (2 : Int) + (t : Int) = ((2 + t : Nat) : Int) := by exact Int.le_antisymm (lini [_] (.g 1 0 (.a (.c 2) (.v 0)) (.a (.c 2) (.v 0))) rfl) (lini [_] (.g 1 0 (.a (.c 2) (.v 0)) (.a (.c 2) (.v 0))) rfl)
  generalize 2 + t = m at *
  apply ends_set (v := .int m) (σ1 := (w0 j).g)
  · simp! [↓q3, ↓q6, ↓q8, ↓q25f, cfu, eq_self, ↓qs1, ↓qs2, ↓bz, ob_s, pu, nr, binV_addi, h1, e', hadd]
  · rfl
  have hlr : (List.range m).length ≤ lim := by rw [List.length_range]; exact Nat.le_trans hm4 (by decide)
  apply ends_set_cadd (x := .rng 0 m) (σ1 := (w0 j).g) (fun i : Nat => V.int (i : Int)) (List.range m) (fun r acc σ => ∃ (j : List Int) (Ls : List (List Int)), σ = (w0 j).g ∧ JB (1 + 4 * Ls.length) j ∧ acc = Ls.map zs ∧ Ls.length + r.length = m ∧ ∀ xs ∈ Ls, Gd xs) (fun ρ => ρ "jug" = some (.ref 0)) (by rfl) (by rfl) (by rfl) (by rfl) ?_ (walk_rng0 (by exact lin [_] (.h 1 0 (.v 0) (.c 4) (.g 1 0 (.v 0) (.c 100000))) rfl hm4)) (by exact h1) ⟨j, [], rfl, by simpa using hj1, rfl, by simp, by simp⟩ hlr ?_ ?_
  · simp! [↓q6, ↓q25f, callN_range1, eq_self, ↓qs1, ↓qs2, ↓bz, ob_s, pu, nr, ur, ↓reduceIte]
  · rintro i r acc ρ σ ⟨j, Ls, rfl, hj2, rfl, hlen, hG⟩ g1
    rw [List.length_cons] at hlen
    refine el_EEAA (drawn_w (n := 6) (w := w0 j) (many := 3) (less := 0) hj2 (by exact lini [((m : Nat) : Int),((Ls.length : Nat) : Int),((r.length : Nat) : Int)] (.h 4 0 (.v 0) (.c 4) (.h 4 2 (.a (.v 1) (.a (.v 2) (.c 1))) (.v 0) (.h 4 0 (.c 0) (.v 2) (.g 1 0 (.a (.c 1) (.m 4 (.v 1))) (.c 900))))) rfl (Int.ofNat_le.mpr hm4) (congrArg Int.ofNat hlen) (Int.natCast_nonneg _)) (by decide) (by decide) (by decide)) fun xs j2 e2 hj3 hg => ?_
    have e2' : call 8 (none, ("_law_drawn" : Str)) [.ref 0, .int 3, .int 0] (w0 j).g = some (zs xs, (w0 j2).g) := e2
    refine in_EEEAAA _ (zs xs) ((w0 j2).g) rfl g1 (by simp! [↓q3, ↓q6, ↓q25f, cfu, eq_self, ↓qs1, ↓qs2, ↓bz, ob_s, pu, nr, ur, oj, ↓reduceIte, String.reduceEq, g1, e2']) (in_EEAAAA j2 (Ls ++ [xs]) rfl ?_ (by simp) (by simp; exact Nat.le_antisymm (lin [_,_,_] (.h 1 2 (.a (.v 0) (.a (.v 1) (.c 1))) (.v 2) (.g 1 0 (.a (.a (.v 0) (.c 1)) (.v 1)) (.v 2))) rfl hlen) (lin [_,_,_] (.h 1 3 (.a (.v 0) (.a (.v 1) (.c 1))) (.v 2) (.g 1 0 (.v 2) (.a (.a (.v 0) (.c 1)) (.v 1)))) rfl hlen)) ?_)
    · rw [List.length_append, List.length_singleton]
      exact hj3.mono (by exact lini [_] (.g 1 0 (.a (.a (.c 1) (.m 4 (.v 0))) (.c 4)) (.a (.c 1) (.m 4 (.a (.v 0) (.c 1))))) rfl)
    · intro z hz
      rcases List.mem_append.mp hz with h | h
      · exact hG z h
      · rw [List.mem_singleton.mp h]; exact hg
  · intro acc σ hlen hri_
    refine el_EEAAAA hri_ fun j Ls hq2_ hj2 hq4_ hlen2 hG => ?_
    refine eq_l hq2_ ?_
    refine eq_l hq4_ ?_
    rw [List.length_nil] at hlen2
    refine el_EEAA (drawn_w (n := 6) (w := w0 j) (many := 7) (less := 1) hj2 (by exact lini [_,_] (.h 4 0 (.v 0) (.c 4) (.h 4 2 (.a (.v 1) (.c 0)) (.v 0) (.g 1 0 (.a (.c 1) (.m 4 (.v 1))) (.c 900)))) rfl (Int.ofNat_le.mpr hm4) (congrArg Int.ofNat hlen2)) (by decide) (by decide) (by decide)) fun xs j2 e2 hj3 hg => ?_
    have e2' : call 8 (none, ("_law_drawn" : Str)) [.ref 0, .int 7, .int 1] (w0 j).g = some (zs xs, (w0 j2).g) := e2
    refine in_EEAA ([zs xs]) ((w0 j2).g) (by simp! [↓q3, ↓q6, ↓q13, ↓q25f, cfu, eq_self, ↓qs1, ↓qs2, ↓bz, ob_s, pu, nr, ur, oj, ↓reduceIte, String.reduceEq, h1, e2', mkL_f1]) ?_ ?_
    · rw [List.length_map]
      exact Nat.le_trans (by simp only [List.length_singleton]; exact lin [_,_] (.h 1 0 (.v 0) (.c 4) (.h 1 2 (.a (.v 1) (.c 0)) (.v 0) (.g 1 0 (.a (.v 1) (.c 1)) (.c 5)))) rfl hm4 hlen2 : _ ≤ 5) (by decide)
    · have := hn m (Ls ++ [xs]) j2 hm2 hm4 (by rw [List.length_append, List.length_singleton]; exact Nat.le_antisymm (lin [_,_] (.h 1 2 (.a (.v 0) (.c 0)) (.v 1) (.g 1 0 (.a (.v 0) (.c 1)) (.a (.v 1) (.c 1)))) rfl hlen2) (lin [_,_] (.h 1 3 (.a (.v 0) (.c 0)) (.v 1) (.g 1 0 (.a (.v 1) (.c 1)) (.a (.v 0) (.c 1)))) rfl hlen2)) (fun z hz => by
        rcases List.mem_append.mp hz with h | h
        · exact hG z h
        · rw [List.mem_singleton.mp h]; exact hg) (hj3.mono (by exact lini [_,_] (.h 4 0 (.v 0) (.c 4) (.h 4 2 (.a (.v 1) (.c 0)) (.v 0) (.g 1 0 (.a (.a (.c 1) (.m 4 (.v 1))) (.c 4)) (.c 30)))) rfl (Int.ofNat_le.mpr hm4) (congrArg Int.ofNat hlen2)))
      rw [zz, List.map_append] at this
      exact this
noncomputable def wd (j : List Int) (Ls : List (List Int)) : Wd := { w0 j with doms := Ls.map joinD, firsts := Ls.map joinD }
theorem law_3 {Q : Fl → Rho → Sg → Prop} {ρ : Rho} {j : List Int} {m : Nat} {Ls : List (List Int)} (hlen : Ls.length ≤ 5) (hG : ∀ xs ∈ Ls, Gd xs) (h1 : ρ "jug" = some (.ref 0)) (h2 : ρ "store" = some stv) (h3 : ρ "n" = some (.int m)) (h4 : ρ "firsts" = some (zz Ls))
    (hn : ∀ ρ : Rho, ρ "jug" = some (.ref 0) → ρ "store" = some stv → ρ "n" = some (.int m) → ρ "firsts" = some (zz Ls) → Ends (exs prm (call 8) lawFd.scope ρ (lawFd.body.drop 4) (wd j Ls).g) Q) :
    Ends (exs prm (call 8) lawFd.scope ρ (lawFd.body.drop 3) (w0 j).g) Q := by
  apply ends_for zs Ls (fun r ρ σ => ρ "jug" = some (.ref 0) ∧ ρ "store" = some stv ∧ ρ "n" = some (.int m) ∧ ρ "firsts" = some (zz Ls) ∧ ∃ done, done ++ r = Ls ∧ σ = (wd j done).g)
  · simp! [↓q6, nr, h4]
    rfl
  · exact walk_lst (by rw [List.length_map]; exact Nat.le_trans hlen (by decide))
  · exact in_AAAAEA h1 h2 h3 h4 ([]) rfl rfl
  · intro xs r ρ σ hri_
    refine el_AAAAEA hri_ fun g1 g2 g3 g4 done hd hq6_ => ?_
    refine eq_l hq6_ ?_
    have hg := hG xs (by rw [← hd]; simp)
    refine el_AAAA hg.join fun k1 k2 k3 k4 k5 => ?_
    have hdl : done.length ≤ 5 := by rw [← hd, List.length_append] at hlen; exact lin [_,_] (.h 1 0 (.a (.v 0) (.a (.v 1) (.c 1))) (.c 5) (.g 1 0 (.v 0) (.c 5))) rfl hlen
    have hxl : xs.length ≤ lim := Nat.le_trans hg.2.2.1 (by decide)
    have e1 := joined_run (n := 7) (σ := (wd j done).g) hxl k1
    obtain ⟨v, e2⟩ := new_var_run (n := 6) (w := wd j done) k5 (by show (done.map joinD).length < _; rw [List.length_map]; exact lin [_] (.h 1 0 (.v 0) (.c 5) (.g 1 1 (.v 0) (.c 1000))) rfl hdl) (by show (done.map joinD).length < _; rw [List.length_map]; exact lin [_] (.h 1 0 (.v 0) (.c 5) (.g 1 1 (.v 0) (.c 1000))) rfl hdl)
    have e2' : call 8 (some (Str.ofString "Store"), ("new_var" : Str)) [stv, dom (joinD xs)] (wd j done).g = some (v, (wd j (done ++ [xs])).g) := by
      refine e2.trans ?_
      unfold wd
      rw [List.map_append]
      rfl
    refine in_EEA _ _ rfl ?_
    apply ends_expr (v := v) (σ1 := (wd j (done ++ [xs])).g)
    · simp! [↓q6, ↓q22f, ↓q25f, cfu, eq_self, ↓qs1, ↓qs2, ↓bz, ob_s, pu, check_t, nr, ur, oj, ↓reduceIte, Bool.and_true, List.length_cons, List.length_nil, Nat.reduceAdd, Nat.reduceLT, decide_true, String.reduceEq, g2, meth_st, e1, e2']
    · rfl
    apply ends_nil
    exact in_AAAAAEA rfl g1 g2 g3 g4 (done ++ [xs]) (by rw [List.append_assoc]; exact hd) rfl
  · intro ρ σ hri_
    refine el_AAAAEA hri_ fun g1 g2 g3 g4 done hd hq6_ => ?_
    refine eq_l hq6_ ?_
    rw [List.append_nil] at hd
    refine eq_l hd ?_
    exact hn ρ g1 g2 g3 g4
theorem law_4 {Q : Fl → Rho → Sg → Prop} {ρ : Rho} {j : List Int} {m : Nat} {Ls : List (List Int)} (hj : JB 30 j) (hm0 : 0 < m) (h1 : ρ "jug" = some (.ref 0)) (h3 : ρ "n" = some (.int m))
    (hn : ∀ (j : List Int) (tk : List Nat), JB 40 j → tk.length ≤ 5 → (∀ x ∈ tk, x < m) → Ends (exs prm (call 8) lawFd.scope (upd ρ "taken" (ztk tk)) (lawFd.body.drop 5) (wd j Ls).g) Q) :
    Ends (exs prm (call 8) lawFd.scope ρ (lawFd.body.drop 4) (wd j Ls).g) Q := by
  refine el_EEAA (tap_w (n := 7) (w := wd j Ls) (many := 4) hj (by exact lini [] (.g 1 0 (.c 30) (.c 1000)) rfl) (by decide)) fun t j1 e ht hj1 => ?_
  have e' : call 8 (none, ("_law_tap" : Str)) [.ref 0, .int 4] (wd j Ls).g = some (.int t, (wd j1 Ls).g) := e
  have hm4 : 2 + t ≤ 5 := by exact lin [_] (.h 1 1 (.v 0) (.c 4) (.g 1 0 (.a (.c 2) (.v 0)) (.c 5))) rfl ht
  have hadd : (2 : Int) + (t : Int) = ((2 + t : Nat) : Int) := by exact Int.le_antisymm (lini [_] (.g 1 0 (.a (.c 2) (.v 0)) (.a (.c 2) (.v 0))) rfl) (lini [_] (.g 1 0 (.a (.c 2) (.v 0)) (.a (.c 2) (.v 0))) rfl)
  generalize 2 + t = k at *
  have hlr : (List.range k).length ≤ lim := by rw [List.length_range]; exact Nat.le_trans hm4 (by decide)
  apply ends_set_c (x := .rng 0 k) (σ1 := (wd j1 Ls).g) (fun i : Nat => V.int (i : Int)) (List.range k) (fun r acc σ => ∃ (j : List Int) (tk : List Nat), σ = (wd j Ls).g ∧ JB (31 + tk.length) j ∧ acc = tk.map (fun x : Nat => V.int (x : Int)) ∧ tk.length + r.length = k ∧ ∀ x ∈ tk, x < m) (fun ρ => ρ "jug" = some (.ref 0) ∧ ρ "n" = some (.int m)) (by rfl) (by rfl) (by rfl) ?_ (walk_rng0 (by exact lin [_] (.h 1 0 (.v 0) (.c 5) (.g 1 0 (.v 0) (.c 100000))) rfl hm4)) ⟨by exact h1, by exact h3⟩ ⟨j1, [], rfl, by simpa using hj1, rfl, by simp, by simp⟩ hlr ?_ ?_
  · simp! [↓q3, ↓q6, ↓q8, ↓q25f, cfu, callN_range1, eq_self, ↓qs1, ↓qs2, ↓bz, ob_s, pu, nr, binV_addi, h1, e', hadd]
  · rintro i r acc ρ σ ⟨j, tk, rfl, hj2, rfl, hlen, hG⟩ ⟨g1, g2⟩
    rw [List.length_cons] at hlen
    refine el_EEAA (tap_w (n := 7) (w := wd j Ls) (many := m) hj2 (by exact lini [((k : Nat) : Int),((tk.length : Nat) : Int),((r.length : Nat) : Int)] (.h 1 0 (.v 0) (.c 5) (.h 1 2 (.a (.v 1) (.a (.v 2) (.c 1))) (.v 0) (.h 1 0 (.c 0) (.v 2) (.g 1 0 (.a (.c 31) (.v 1)) (.c 1000))))) rfl (Int.ofNat_le.mpr hm4) (congrArg Int.ofNat hlen) (Int.natCast_nonneg _)) hm0) fun x j2 e2 hx hj3 => ?_
    have e2' : call 8 (none, ("_law_tap" : Str)) [.ref 0, .int m] (wd j Ls).g = some (.int x, (wd j2 Ls).g) := e2
    refine in_EEEAAA _ (.int x) ((wd j2 Ls).g) rfl ⟨g1, g2⟩ (by simp! [↓q6, ↓q25f, cfu, eq_self, ↓qs1, ↓qs2, ↓bz, ob_s, pu, nr, ur, oj, ↓reduceIte, String.reduceEq, g1, g2, e2']) (in_EEAAAA j2 (tk ++ [x]) rfl ?_ (by simp) (by simp; exact Nat.le_antisymm (lin [_,_,_] (.h 1 2 (.a (.v 0) (.a (.v 1) (.c 1))) (.v 2) (.g 1 0 (.a (.a (.v 0) (.c 1)) (.v 1)) (.v 2))) rfl hlen) (lin [_,_,_] (.h 1 3 (.a (.v 0) (.a (.v 1) (.c 1))) (.v 2) (.g 1 0 (.v 2) (.a (.a (.v 0) (.c 1)) (.v 1)))) rfl hlen)) ?_)
    · rw [List.length_append, List.length_singleton]
      exact hj3.mono (by exact lini [_] (.g 1 0 (.a (.a (.c 31) (.v 0)) (.c 1)) (.a (.c 31) (.a (.v 0) (.c 1)))) rfl)
    · intro z hz
      rcases List.mem_append.mp hz with h | h
      · exact hG z h
      · rw [List.mem_singleton.mp h]; exact hx
  · intro acc σ hlen hri_
    refine el_EEAAAA hri_ fun j tk hq2_ hj2 hq4_ hlen2 hG => ?_
    refine eq_l hq2_ ?_
    refine eq_l hq4_ ?_
    rw [List.length_nil] at hlen2
    exact hn j tk (hj2.mono (by exact lini [_,_] (.h 1 0 (.v 0) (.c 5) (.h 1 2 (.a (.v 1) (.c 0)) (.v 0) (.g 1 0 (.a (.c 31) (.v 1)) (.c 40)))) rfl (Int.ofNat_le.mpr hm4) (congrArg Int.ofNat hlen2))) (by exact lin [_,_] (.h 1 0 (.v 0) (.c 5) (.h 1 2 (.a (.v 1) (.c 0)) (.v 0) (.g 1 0 (.v 1) (.c 5)))) rfl hm4 hlen2) hG
end
section
open PySem
set_option maxRecDepth 100000
set_option backward.defeqAttrib.useBackward true
theorem law_5 {Q : Fl → Rho → Sg → Prop} {ρ : Rho} {j : List Int} {Ls : List (List Int)} (hj : JB 40 j) (hlen : Ls.length ≤ 5) (hG : ∀ xs ∈ Ls, Gd xs) (h1 : ρ "jug" = some (.ref 0)) (h4 : ρ "firsts" = some (zz Ls))
    (hn : ∀ (j : List Int) (v : Int), JB 50 j → Ends (exs prm (call 8) lawFd.scope (upd (upd ρ "value" (.int v)) "lists" (.ref 7)) (lawFd.body.drop 6) (wl (wd j Ls) Ls).g) Q) :
    Ends (exs prm (call 8) lawFd.scope ρ (lawFd.body.drop 5) (wd j Ls).g) Q := by
  refine el_EEAA (tap_w (n := 7) (w := wd j Ls) (many := 3) hj (by exact lini [] (.g 1 0 (.c 40) (.c 1000)) rfl) (by decide)) fun v j1 e _ hj1 => ?_
  have e' : call 8 (none, ("_law_tap" : Str)) [.ref 0, .int 3] (wd j Ls).g = some (.int v, (wd j1 Ls).g) := e
  have hl : Ls.length ≤ lim := Nat.le_trans hlen (by decide)
  have hlm : (Ls.map zs).length ≤ lim := by rw [List.length_map]; exact hl
  apply ends_asg (v := .tup [.int v, .ref 7]) (σ1 := (wl (wd j1 Ls) Ls).g)
  · simp! [↓q3, ↓q6, ↓q14, ↓q25f, cfu, ↓qs1, ↓qs2, ↓bz, ob_s, pu, nr, h1, e']
    rw [ev_comp1 (σ := (wd j1 Ls).g) (σ1 := (wd j1 Ls).g) zs Ls (fun _ => true) zs (fun ρ => True) rfl (by simp! [↓q6, nr, h4]; rfl) (walk_lst hlm) rfl trivial hl]
    · rw [show (Ls.filter fun _ => true) = Ls by simp]
      rw [mkL_t (by rfl) hlm]
      rfl
    · rintro x hxt ρ _
      refine in_EAAA _ rfl trivial (by simp! [eq_self, ↓qtA1, pu]) (fun _ => ?_)
      have : x.length ≤ lim := Nat.le_trans (hG x hxt).2.2.1 (by decide)
      simp! [↓q6, ↓q25f, eq_self, ↓qs1, ↓qs2, ↓bz, ob_s, pu, nr, ur, ↓reduceIte, callN_list_zs]
  · rfl
  · rfl
  exact hn _ _ (hj1.mono (by exact lini [] (.g 1 0 (.a (.c 40) (.c 1)) (.c 50)) rfl))
theorem law_6 {ρ : Rho} {j : List Int} {m : Nat} {Ls : List (List Int)} {tk : List Nat} {v : Int} (hj : JB 50 j) (hlen : Ls.length = m + 1) (hm : m ≤ 4) (hm0 : 0 < m) (hG : ∀ xs ∈ Ls, Gd xs) (htk : tk.length ≤ 5) (hxm : ∀ x ∈ tk, x < m)
    (r1 : ρ "store" = some stv) (r2 : ρ "firsts" = some (zz Ls)) (r3 : ρ "jug" = some (.ref 0)) (r4 : ρ "n" = some (.int m)) (r5 : ρ "taken" = some (ztk tk)) (r6 : ρ "value" = some (.int v)) (r7 : ρ "lists" = some (.ref 7)) :
    Ends (exs prm (call 8) lawFd.scope ρ (lawFd.body.drop 6) (wl (wd j Ls) Ls).g) fun fl _ _ => fl = .ret (.bool true) := by
  have hjoin := fun xs h => (hG xs h).join
  have hdm : (Ls.map joinD).map mem = Ls := by
    rw [List.map_map]
    conv => rhs; rw [← List.map_id Ls]
    exact List.map_congr_left fun xs h => (hjoin xs h).2.1
  have hD : ∀ d ∈ Ls.map joinD, WF d ∧ Bd d ∧ d ≠ [] := fun d h => by
    refine el_EA (List.mem_map.mp h) fun xs hx hq2_ => ?_
    refine eq_r hq2_ ?_
    exact (hjoin xs hx).2.2
  have ei : call 8 (some (Str.ofString "Count"), ("__init__" : Str)) [.inst (Str.ofString "Count") (wl (wd j Ls) Ls).g.length, ztk tk, .int v, .int m] ((wl (wd j Ls) Ls).g ++ [.fields []]) = some (.none, (wl ({ wd j Ls with rest := [.fields (cfs tk v m)] } : Wd) Ls).g) := count_init_run (n := 6) (w := wd j Ls) (A := .list (Ls.map zs)) (by exact lin [_] (.h 1 0 (.v 0) (.c 5) (.g 1 0 (.v 0) (.c 100))) rfl htk)
  have ec := callN_cls (sc := lawFd.scope) (c := "Count") (by rfl) (by rfl) (by rfl) ei
  generalize hw1 : ({ wd j Ls with rest := [.fields (cfs tk v m)] } : Wd) = w1 at *
  have hm1 : w1.mkv = .ref 5 := by rw [← hw1]; rfl
  have hk1 : w1.marks = [] := by rw [← hw1]; rfl
  have ht1 : w1.trail = [] := by rw [← hw1]; rfl
  apply ends_set (v := ctv) (σ1 := (wl w1 Ls).g)
  · simp! [↓q6, ↓q25f, ↓qs1, ↓qs2, ↓bz, ob_s, pu, nr, r4, r5, r6, ec]
    rfl
  · rfl
  have ep := push_run (n := 7) (w := wl w1 Ls) hm1 (by show w1.marks.length < _; rw [hk1]; decide) (by show w1.trail.length < _; rw [ht1]; decide)
  have ep' : call 8 (some (Str.ofString "Store"), ("push" : Str)) [stv] (wl w1 Ls).g = some (.none, (wl ({ w1 with marks := [0] } : Wd) Ls).g) := by
    refine ep.trans ?_
    have hmk : w1.marks ++ [(w1.trail.length : Int)] = [0] := by rw [hk1, ht1]; rfl
    show some (V.none, (wl ({ w1 with marks := w1.marks ++ [(w1.trail.length : Int)] } : Wd) Ls).g) = _
    rw [hmk]
  generalize hw2 : ({ w1 with marks := [0] } : Wd) = w2 at *
  apply ends_expr (v := .none) (σ1 := (wl w2 Ls).g)
  · simp! [↓q6, ↓q22f, eq_self, ↓qs1, ↓bz, ob_s, pu, check_t, nr, ur, oj, ↓reduceIte, Bool.and_true, List.length_nil, Nat.reduceLT, decide_true, String.reduceEq, r1, meth_st, ep']
  · rfl
  have P : Lap tk v m (Ls.map joinD) 100 0 w2 Ls := by
    rw [← hw2, ← hw1]
    exact ⟨⟨hdm, hD, by show (Ls.map joinD).length = _; rw [List.length_map, hlen], rfl, fun e h => absurd h (List.not_mem_nil), rfl, Nat.le_refl 0, Nat.le_refl 0⟩, rfl, rfl, rfl, rfl, hj.mono (by exact lini [] (.g 1 0 (.c 50) (.c 100)) rfl)⟩
  have hf2 : w2.f = false := by rw [← hw2, ← hw1]; rfl
  exact laps_run P hf2 (by exact lin [_] (.h 1 0 (.v 0) (.c 4) (.g 1 0 (.v 0) (.c 400))) rfl hm) htk hxm hm0 hdm hD (by exact r1) (by exact r2) (by exact r3) (by exact r4) (by exact r5) (by exact r6) (by exact r7) rfl
theorem law_run {ns : List Int} (h : ns.length ≤ 63) : ∃ σ, call 9 (none, ("law" : Str)) [.lst (ns.map .int)] [] = some (.bool true, σ) := by
  suffices h : CallQ 9 (none, ("law" : Str)) [.lst (ns.map .int)] [] fun v _ => v = .bool true by
    refine el_EEA (callQ_get h) fun v s e hq3_ => ?_
    refine eq_r hq3_ ?_
    exact ⟨s, e⟩
  apply callQ (d := lawFd) rfl rfl rfl rfl
  apply law_0 h rfl
  intro jug hj
  apply law_1 hj rfl
  intro m Ls j hm2 hm4 hlen hG hj
  apply law_3 (m := m) (Ls := Ls) (by exact lin [_,_] (.h 1 0 (.v 0) (.c 4) (.h 1 2 (.v 1) (.a (.v 0) (.c 1)) (.g 1 0 (.v 1) (.c 5)))) rfl hm4 hlen) hG rfl rfl rfl rfl
  intro ρ r1 r2 r3 r4
  apply law_4 hj (by exact lin [_] (.h 1 0 (.c 2) (.v 0) (.g 1 1 (.c 0) (.v 0))) rfl hm2) r1 r3
  intro j tk hj htk hxm
  apply law_5 hj (by exact lin [_,_] (.h 1 0 (.v 0) (.c 4) (.h 1 2 (.v 1) (.a (.v 0) (.c 1)) (.g 1 0 (.v 1) (.c 5)))) rfl hm4 hlen) hG (by exact r1) (by exact r4)
  intro j v hj
  refine ends_mono (law_6 (m := m) (tk := tk) (v := v) hj hlen hm4 (by exact lin [_] (.h 1 0 (.c 2) (.v 0) (.g 1 1 (.c 0) (.v 0))) rfl hm2) hG htk hxm (by exact r2) (by exact r4) (by exact r1) (by exact r3) rfl rfl rfl) ?_
  rintro fl ρ σ rfl
  rfl
end
end Mine
section
open PySem PySem.W PyProof.Rows PySem.Spec
set_option Elab.async false
set_option maxRecDepth 100000
namespace Mine
noncomputable def stands (o : Obj) : Option Obj := (Heap.mk #[o] {}).get? 0
noncomputable def fragGo : Nat → List Obj → Frag
  | _, [] => []
  | i, o :: r => match stands o with
    | some o => (i, o) :: fragGo (i + 1) r
    | none => fragGo (i + 1) r
noncomputable def fragOf (h : Heap) : Frag := fragGo 0 h.objs.toList
theorem fragGo_cons {i : Nat} {o : Obj} {r : List Obj} : fragGo i (o :: r) = match stands o with
    | some o => (i, o) :: fragGo (i + 1) r
    | none => fragGo (i + 1) r := rfl
theorem fragGo_mem {a : Nat} {o : Obj} : ∀ (l : List Obj) (i : Nat), (a, o) ∈ fragGo i l → ∃ j o', a = i + j ∧ l[j]? = some o' ∧ stands o' = some o := by
  intro l
  induction l with
  | nil => exact fun i h => (List.not_mem_nil h).elim
  | cons x r ih =>
    intro i h
    have tail : (a, o) ∈ fragGo (i + 1) r → ∃ j o', a = i + j ∧ (x :: r)[j]? = some o' ∧ stands o' = some o := fun h => by
      refine el_EEAA (ih (i + 1) h) fun j o' h1 h2 h3 => ?_
      exact ⟨j + 1, o', by rw [h1, Nat.add_right_comm]; rfl, h2, h3⟩
    rw [fragGo_cons] at h
    cases e : stands x with
    | none => rw [e] at h; exact tail h
    | some y =>
      rw [e] at h
      rcases List.mem_cons.mp h with q | q
      · cases q; exact ⟨0, x, rfl, rfl, e⟩
      · exact tail q
theorem stands_get {h : Heap} {a : Nat} {o o' : Obj} (h1 : h.objs[a]? = some o') (h2 : stands o' = some o) : h.get? a = some o := by
  unfold Heap.get?
  rw [h1]
  exact h2
theorem lookup_mem {K : Frag} {a : Addr} {o : Obj} (h : K.lookup a = some o) : (a, o) ∈ K := by
  induction K with
  | nil => cases h
  | cons p r ih =>
    rw [List.lookup_cons] at h
    split at h
    · rename_i e
      cases h
      rw [eq_of_beq e]
      exact List.mem_cons_self
    · exact List.mem_cons_of_mem _ (ih h)
theorem fragOf_in (h : Heap) : (fragOf h).In h := fun a o e => by
  refine el_EEAA (fragGo_mem _ 0 (lookup_mem e)) fun j o' h1 h2 h3 => ?_
  refine eq_l (h1.trans (Nat.zero_add j)) (stands_get ?_ h3)
  exact (Array.getElem?_toList (xs := h.objs) (i := j)).symm.trans h2
noncomputable def cmap : Str → Option Addr := fun c => if c = "Store" then some 244 else if c = "Count" then some 335 else none
noncomputable def entries : List (Key × Addr) := [(ky none "least", 28), (ky none "greatest", 35), (ky none "next_from", 42), (ky none "has_domains", 49), (ky none "up_to", 54), (ky none "from_on", 59), (ky none "without", 66), (ky none "meet", 73), (ky none "negation", 80), (ky none "struck", 87),
  (ky none "_law_tap", 344), (ky none "_law_drawn", 349), (ky none "_law_fits", 356), (ky none "_law_fit", 361), (ky none "_law_other", 368), (ky none "_law_is_way", 373), (ky none "_law_once", 378), (ky none "_law_is_right", 383), (ky none "_law_joined", 388), (ky none "_law_lists", 393), (ky none "law", 398),
  (ky (some "Store") "__init__", 108), (ky (some "Store") "new_var", 115), (ky (some "Store") "size", 122), (ky (some "Store") "dom", 129), (ky (some "Store") "low", 143), (ky (some "Store") "high", 150), (ky (some "Store") "has", 157), (ky (some "Store") "is_fixed", 164), (ky (some "Store") "value", 171), (ky (some "Store") "enter", 192), (ky (some "Store") "strike", 199),
  (ky (some "Store") "decide", 206), (ky (some "Store") "fail", 213), (ky (some "Store") "push", 220), (ky (some "Store") "pop", 227), (ky (some "Count") "strike_once", 318)]
noncomputable def keyObs (K : Frag) : Key → Option (Option Value)
  | (none, nm) => nsIn K mainGlobals nm
  | (some c, nm) => match cmap c with | some C => findIn K (.ref C) nm | none => none
noncomputable abbrev FnO := FuncBody × Scope × (Addr × Addr × List (Str × Addr)) × (List Arg × List Str × List Arg × Option Arg × Option Arg) × Value × Bool × Bool × Bool
noncomputable def dFunc : Data → Option FuncData
  | .func fd => some fd
  | _ => none
noncomputable def dCell : Data → Option (Option Value)
  | .cell v => some v
  | _ => none
noncomputable def dFlds : Data → Option (Array Value)
  | .fields vs => some vs
  | _ => none
noncomputable def vStr : Value → Option Str
  | .str s _ => some s
  | _ => none
theorem dFunc_e {d : Data} {f : FuncData} (h : dFunc d = some f) : d = .func f := by cases d <;> first | exact congrArg Data.func (Option.some.inj h) | exact fail_e h
theorem dCell_e {d : Data} {f : Option Value} (h : dCell d = some f) : d = .cell f := by cases d <;> first | exact congrArg Data.cell (Option.some.inj h) | exact fail_e h
theorem dFlds_e {d : Data} {f : Array Value} (h : dFlds d = some f) : d = .fields f := by cases d <;> first | exact congrArg Data.fields (Option.some.inj h) | exact fail_e h
theorem vStr_e {v : Value} {s : Str} (h : vStr v = some s) : ∃ t, v = .str s t := by cases v <;> first | exact ⟨_, congrArg (Value.str · _) (Option.some.inj h)⟩ | exact fail_e h
noncomputable def at_ {α : Type} (K : Frag) (f : Addr) (p : Data → Option α) : Option α := (K.lookup f).bind fun o => p o.data
theorem at_e {α : Type} {K : Frag} {f : Addr} {p : Data → Option α} {x : α} (h : at_ K f p = some x) : ∃ o, K.lookup f = some o ∧ p o.data = some x := Option.bind_eq_some_iff.mp h
noncomputable def fnObs (K : Frag) (f : Addr) : Option FnO := (at_ K f dFunc).map fun fd => (fd.body, fd.scope, (fd.globals, fd.builtins, fd.closure), (fd.params.posonlyargs, fd.params.args.map (·.arg), fd.params.kwonlyargs, fd.params.vararg, fd.params.kwarg), fd.defaults, codeIn K fd.code fd.qualname, isFn K (.ref f), keepIn K (.ref f))
noncomputable def fnGood (c : List (Str × Addr)) (d : Fd) : Option FnO := some (.stmts d.body, d.scope, (mainGlobals, builtinsNs, c), ([], d.params, [], none, none), .none, true, true, true)
theorem fnObs_get {K : Frag} {f : Addr} {c : List (Str × Addr)} {d : Fd} (h : fnObs K f = fnGood c d) : (∃ c' di fd sl, K.lookup f = some ⟨c', di, .func fd, sl⟩ ∧ fd.body = .stmts d.body ∧ fd.scope = d.scope ∧ fd.globals = mainGlobals ∧ fd.builtins = builtinsNs ∧ fd.closure = c ∧ PlainFn fd d.params ∧ codeIn K fd.code fd.qualname = true) ∧
    isFn K (.ref f) = true ∧ keepIn K (.ref f) = true := by
  refine el_EA (Option.map_eq_some_iff.mp h) fun fd h0 h => ?_
  refine el_EA (at_e h0) fun o e0 hd => ?_
  obtain ⟨c', di, dd, sl⟩ := o
  have hd : dd = .func fd := dFunc_e hd
  subst hd
  have e := e0
  · have h1 := congrArg (fun x : FnO => x.1) h
    have h2 := congrArg (fun x : FnO => x.2.1) h
    have h3 := congrArg (fun x : FnO => x.2.2.1) h
    have h4 := congrArg (fun x : FnO => x.2.2.2.1) h
    have h5 := congrArg (fun x : FnO => x.2.2.2.2) h
    dsimp only at h1 h2 h3 h4 h5
    simp only [Prod.mk.injEq] at h3 h4 h5
    exact ⟨⟨c', di, fd, sl, e, h1, h2, h3.1, h3.2.1, h3.2.2, ⟨h4.1, h4.2.1, h4.2.2.1, h4.2.2.2.1, h4.2.2.2.2, h5.1⟩, h5.2.1⟩, h5.2.2.1, h5.2.2.2⟩
noncomputable def initFd : Fd := ((topClasses.lookup ("Count" : Str)).bind (·.lookup ("__init__" : Str))).getD default
noncomputable def rowProg : Program := PySem.Challenge.rw_pc0032_01.row.prog
theorem prog_eq : prog = rowProg := by delta prog; rfl
theorem P_eq : P = prm := by delta P; rfl
theorem cm_eq : cm = cmap := by delta cm; rfl
noncomputable def moreObs (K : Frag) : Option Value × Option Value × Bool × Option (Option Value) × Option Bool × Option (Option Value) :=
  ((at_ K 306 dFunc).map (·.code), (at_ K 294 dCell).bind id,
    (((at_ K 305 dFlds).bind fun vs => (vs[2]?).bind vStr).map fun file => rowProg.main.file == file).getD false,
    (clsIn K 335).bind fun cd => alongIn K "__init__" ((cd.mro.dropWhile (· != .ref 335)).drop 1), mroIn K 335 (.ref 335), nsIn K cStatics "thirdparty.any")
noncomputable abbrev ClO := (Option (Option Value) × Option (Option Value) × Option (Option Value)) × List (Option (Option Value)) × Option (Option Value) × List Bool
noncomputable def clsObs (K : Frag) (c : Str) (C : Addr) : ClO :=
  ((findIn K (.ref C) "__getattribute__", findIn K (.ref C) "__getattr__", findIn K (.ref C) "__setattr__"), (fldsOf c).map (fun n => findIn K (.ref C) n), nsIn K mainGlobals c, [hasDictIn K C, plainOver K C, keepIn K (.ref C), makesIn K C])
noncomputable def clsGood (c : Str) (C : Addr) : ClO :=
  ((some (some (.builtin "object.__getattribute__")), some none, some (some (.builtin "object.__setattr__"))), (fldsOf c).map (fun _ => some none), some (some (.ref C)), [true, true, true, true])
noncomputable abbrev AllO := List (Option (Option Value) × Option FnO) × Option FnO × Option FnO × (Option Value × Option Value × Bool × Option (Option Value) × Option Bool × Option (Option Value)) × ClO × ClO × List (Option (Option Value))
noncomputable def allObs (K : Frag) : AllO :=
  (entries.map (fun e => (keyObs K e.1, fnObs K e.2)), fnObs K 262, fnObs K 306, moreObs K, clsObs K "Store" 244, clsObs K "Count" 335, findIn K (.ref 335) "__init__" :: bnames.map (fun f => nsIn K mainGlobals f))
noncomputable def allGood : AllO :=
  (entries.map (fun e => (some (some (.ref e.2)), (tab' e.1).bind (fnGood []))), fnGood [] pinit, fnGood [(("__class__" : Str), 294)] initFd, (some (.ref 305), some (.ref 335), true, some (some (.ref 262)), some true, some none), clsGood "Store" 244, clsGood "Count" 335, some (some (.ref 306)) :: bnames.map (fun _ => some none))
structure Seen (K : Frag) : Prop where
  all : allObs K = allGood
section
variable {K : Frag}
theorem Seen.ent (S : Seen K) : ∀ e ∈ entries, keyObs K e.1 = some (some (.ref e.2)) ∧ fnObs K e.2 = (tab' e.1).bind (fnGood []) := fun e he => by
  have h0 : entries.map (fun e => (keyObs K e.1, fnObs K e.2)) = entries.map (fun e => (some (some (.ref e.2)), (tab' e.1).bind (fnGood []))) := congrArg (fun x : AllO => x.1) S.all
  have := List.map_inj_left.mp h0 e he
  exact ⟨congrArg Prod.fst this, congrArg Prod.snd this⟩
theorem Seen.cls1 (S : Seen K) : clsObs K "Store" 244 = clsGood "Store" 244 := congrArg (fun x : AllO => x.2.2.2.2.1) S.all
theorem Seen.cls2 (S : Seen K) : clsObs K "Count" 335 = clsGood "Count" 335 := congrArg (fun x : AllO => x.2.2.2.2.2.1) S.all
theorem keyAt_of {key : Key} {a : Addr} (h : keyObs K key = some (some (.ref a))) : KeyAt K cmap key a := by
  obtain ⟨c, nm⟩ := key
  cases c with
  | none => exact h
  | some c =>
    unfold keyObs at h
    dsimp only at h
    split at h
    · rename_i C hC; exact ⟨C, hC, h⟩
    · cases h
theorem keys_ent : keys = entries.map (·.1) := rfl
theorem Seen.hT (S : Seen K) : ∀ key d, tab' key = some d → ∃ f, KeyAt K cmap key f ∧ FnAt K f d := by
  intro key d e
  have hk : key ∈ keys := by
    unfold tab' at e
    split at e
    · rename_i hk; exact List.contains_iff_mem.mp hk
    · cases e
  rw [keys_ent] at hk
  obtain ⟨p, hp, rfl⟩ := List.mem_map.mp hk
  obtain ⟨h1, h2⟩ := S.ent p hp
  rw [e] at h2
  obtain ⟨h3, h4, h5⟩ := fnObs_get h2
  exact ⟨p.2, keyAt_of h1, ⟨h3, h4, h5⟩⟩
theorem Seen.pi (S : Seen K) : FnAt K 262 pinit := by
  obtain ⟨h3, h4, h5⟩ := fnObs_get (congrArg (fun x : AllO => x.2.1) S.all)
  exact ⟨h3, h4, h5⟩
theorem Seen.ini (S : Seen K) : fnObs K 306 = fnGood [(("__class__" : Str), 294)] initFd := congrArg (fun x : AllO => x.2.2.1) S.all
theorem Seen.more (S : Seen K) : moreObs K = (some (.ref 305), some (.ref 335), true, some (some (.ref 262)), some true, some none) := congrArg (fun x : AllO => x.2.2.2.1) S.all
theorem Seen.last (S : Seen K) : findIn K (.ref 335) "__init__" :: bnames.map (fun f => nsIn K mainGlobals f) = some (some (.ref 306)) :: bnames.map (fun _ => some none) := congrArg (fun x : AllO => x.2.2.2.2.2.2) S.all
theorem Seen.ki (S : Seen K) : KeyAt K cmap (some ("Count" : Str), ("__init__" : Str)) 306 := ⟨335, rfl, (List.cons.inj S.last).1⟩
theorem Seen.glob (S : Seen K) : ∀ f ∈ bnames, nsIn K mainGlobals f = some none := List.map_inj_left.mp (List.cons.inj S.last).2
noncomputable def initBody : List Stmt := initFd.body
theorem scope_free : ∀ x ∈ initFd.scope.names, x.2 ≠ .cell := by decide
theorem Seen.initAt (S : Seen K) : InitAt prog K 306 335 294 262 305 pinit initBody := by
  rw [prog_eq]
  have h := S.more
  have h1 := congrArg (fun x : Option Value × Option Value × Bool × Option (Option Value) × Option Bool × Option (Option Value) => x.1) h
  have h2 := congrArg (fun x : Option Value × Option Value × Bool × Option (Option Value) × Option Bool × Option (Option Value) => x.2.1) h
  have h3 := congrArg (fun x : Option Value × Option Value × Bool × Option (Option Value) × Option Bool × Option (Option Value) => x.2.2.1) h
  have h4 := congrArg (fun x : Option Value × Option Value × Bool × Option (Option Value) × Option Bool × Option (Option Value) => x.2.2.2.1) h
  have h5 := congrArg (fun x : Option Value × Option Value × Bool × Option (Option Value) × Option Bool × Option (Option Value) => x.2.2.2.2.1) h
  have h6 := congrArg (fun x : Option Value × Option Value × Bool × Option (Option Value) × Option Bool × Option (Option Value) => x.2.2.2.2.2) h
  clear h
  unfold moreObs at h1 h2 h3 h4 h5 h6
  dsimp only at h1 h2 h3 h4 h5 h6
  obtain ⟨⟨c, di, fd, sl, e, b1, b2, b3, b4, b5, b6, b7⟩, h7, h8⟩ := fnObs_get S.ini
  have h1 : fd.code = .ref 305 := Option.some.inj ((show some fd.code = (at_ K 306 dFunc).map (·.code) by unfold at_; rw [e]; rfl).trans h1)
  have har : fd.params.args.map (·.arg) = (["self", "taken", "value", "n"] : List Str) := b6.ar
  have hpo := b6.po
  refine ⟨?_, ?_, ?_, rfl, ?_, h5, h6, h7, h8, S.pi⟩
  · cases ha : fd.params.args with
    | nil => rw [ha] at har; cases har
    | cons ar r =>
      rw [ha] at har
      refine ⟨c, di, fd, sl, ar, e, b1, b3, b4, b5, b6, b7, h1, by rw [hpo, ha]; rfl, (List.cons.inj har).1, ?_⟩
      rw [b2]
      exact ⟨rfl, rfl, rfl, scope_free, rfl, rfl, rfl, rfl, rfl, rfl, rfl⟩
  · refine el_EA (Option.bind_eq_some_iff.mp h2) fun v q0 q => ?_
    refine el_EA (at_e q0) fun o q1 hd => ?_
    obtain ⟨c, di, dd, sl⟩ := o
    have hd : dd = .cell v := dCell_e hd
    have q : v = some (.ref 335) := q
    subst hd q
    exact ⟨_, _, _, q1⟩
  · cases hx : (at_ K 305 dFlds).bind fun vs => (vs[2]?).bind vStr with
    | none => rw [hx] at h3; cases h3
    | some file =>
      rw [hx] at h3
      refine el_EA (Option.bind_eq_some_iff.mp hx) fun vs q0 q => ?_
      refine el_EA (Option.bind_eq_some_iff.mp q) fun v q2 q3 => ?_
      refine el_E (vStr_e q3) fun tf q4 => ?_
      refine el_EA (at_e q0) fun o q1 hd => ?_
      obtain ⟨c, di, dd, sl⟩ := o
      have hd : dd = .fields vs := dFlds_e hd
      subst hd q4
      exact ⟨_, _, vs, _, file, tf, q1, q2, h3⟩
  · obtain ⟨cd, q1, q2⟩ := Option.bind_eq_some_iff.mp h4
    exact ⟨cd, _, _, q1, rfl, rfl, q2⟩
theorem cmap_cases {c : Str} {C : Addr} (h : cmap c = some C) : (c = "Store" ∧ C = 244) ∨ (c = "Count" ∧ C = 335) := by
  unfold cmap at h
  split at h
  · rename_i q; cases h; exact .inl ⟨q, rfl⟩
  · split at h
    · rename_i q; cases h; exact .inr ⟨q, rfl⟩
    · cases h
theorem Seen.cls (S : Seen K) {c : Str} {C : Addr} (h : cmap c = some C) : clsObs K c C = clsGood c C := by
  rcases cmap_cases h with ⟨rfl, rfl⟩ | ⟨rfl, rfl⟩
  · exact S.cls1
  · exact S.cls2
theorem Seen.bools (S : Seen K) {c : Str} {C : Addr} (h : cmap c = some C) : hasDictIn K C = true ∧ plainOver K C = true ∧ keepIn K (.ref C) = true ∧ makesIn K C = true := by
  have := congrArg (fun x : ClO => x.2.2.2) (S.cls h)
  have h1 := List.cons.inj this
  have h2 := List.cons.inj h1.2
  have h3 := List.cons.inj h2.2
  exact ⟨h1.1, h2.1, h3.1, (List.cons.inj h3.2).1⟩
theorem Seen.clsOk (S : Seen K) (cls : Cx) (hc : cls.c = cmap) : ClsOk K cls where
  get := fun c C h => by rw [hc] at h; exact congrArg (fun x : ClO => x.1.1) (S.cls h)
  nog := fun c C h => by rw [hc] at h; exact congrArg (fun x : ClO => x.1.2.1) (S.cls h)
  hasD := fun c C h => by rw [hc] at h; exact (S.bools h).1
  set := fun c C h => by rw [hc] at h; exact congrArg (fun x : ClO => x.1.2.2) (S.cls h)
  plain := fun c C h => by rw [hc] at h; exact (S.bools h).2.1
  flds := fun c C h n hn => by rw [hc] at h; exact List.map_inj_left.mp (congrArg (fun x : ClO => x.2.1) (S.cls h)) n hn
theorem bnames_built : (bnames.all fun f => bootBuiltins f == some (bvalue f) && !(f == ("__name__" : Str))) = true := by decide +kernel
theorem Seen.base (S : Seen K) {h₀ : Heap} {mg mb : Str → Option Value} (KX : K.In h₀) (g : h₀.Ns mainGlobals mg) (b : h₀.Ns builtinsNs mb) (hb : ∀ x : Str, x ≠ "__name__" → mb x = bootBuiltins x) (hl : h₀.NoLimit) : Base K h₀ where
  X := KX
  KC := fun cls h => S.clsOk cls (h.trans cm_eq)
  G := ⟨mg, mb, g, b, fun f hf => ⟨mg_none_of KX g (S.glob f hf), by
    have := List.all_eq_true.mp bnames_built f hf
    simp only [Bool.and_eq_true, beq_iff_eq, Bool.not_eq_true', beq_eq_false_iff_ne] at this
    rw [hb f this.2, this.1]⟩⟩
  N := fun f hf => by
    rw [P_eq] at hf
    rw [cm_eq]
    have hf' : f ∈ (["Store", "Count"] : List Str) := List.contains_iff_mem.mp hf
    obtain ⟨C, hC⟩ : ∃ C, cmap f = some C := by
      simp only [List.mem_cons, List.not_mem_nil, or_false] at hf'
      rcases hf' with rfl | rfl
      · exact ⟨244, rfl⟩
      · exact ⟨335, rfl⟩
    exact ⟨C, hC, congrArg (fun x : ClO => x.2.2.1) (S.cls hC), (S.bools hC).2.2.1, (S.bools hC).2.2.2⟩
  lim := hl
theorem Seen.facts (S : Seen K) {w : World} {h₀ : Heap} (B : Base K h₀) (n : Nat) : Facts w (call n) K h₀ n := by
  have h := Mine.facts (w := w) (pi := pinit) (tab := tab') B (by rw [cm_eq]; exact S.hT) (by rw [cm_eq]; exact S.ki) S.initAt.fn S.initAt.keep (fun _ _ _ _ _ _ _ _ _ _ hcm R k ds he => countInit_sound (B.facts0 _ (fun _ _ => rfl) 0) B.lim S.initAt (by rw [cm_eq]; rfl) hcm R k ds he) n
  rw [P_eq] at h
  exact h
end
end Mine
end
section
open PySem PySem.W PyProof.Rows PySem.Spec
set_option Elab.async false
set_option maxRecDepth 100000
set_option maxHeartbeats 8000000
namespace Mine
theorem left_boot {p q : Program} {loose : List Str} {Xt : Shared → Bool} {α : Type} {Yf : Shared → α} {Ya : World → α} {N : Nat} {g0 : Bool} (e : opening p = plainProg p.main.scope.names) (hN : Nat.ble 600 N = true) (f : ∀ s, fenceModules? p s = some s) {m0 : Nat} {ann : Option Value}
    (size : ∀ w : World, ((boot_heap w.params).isNs mainGlobals, (boot_heap w.params).objs.size, (boot_heap w.params).nsMap mainGlobals "__annotations__") = (true, m0, ann))
    (h : ∀ w : World, (fun os => (topRun treeTable p w m0 ann N ⟨boot_heap w.params, Array.mk [], boot_drawn, boot_toks, os⟩ (topStub p)).map (fun s₁ => (staticsOk (importedModules p.main.body) (boot_heap w.params) s₁.heap && namesBound p s₁.heap && gensDone s₁ && laidKept (boot_heap w.params) s₁.heap, openSeen q loose (importedModules p.main.body) Xt g0 s₁, Yf s₁))) = fun _ => some (true, openGood q loose, Ya w)) : LeftO p q loose Xt Yf Ya N g0 := fun w => by
  obtain ⟨⟨hh, gs, d, k, os⟩, e1, e2⟩ := Option.map_eq_some_iff.mp (boot_open e hN f w)
  obtain ⟨rfl, rfl, rfl, rfl⟩ : hh = boot_heap w.params ∧ gs = Array.mk [] ∧ d = boot_drawn ∧ k = boot_toks := by simpa using e2
  obtain ⟨z1, z2, z3⟩ : _ ∧ _ ∧ _ := by simpa only [Prod.mk.injEq] using size w
  obtain ⟨s₁, r, q⟩ := Option.map_eq_some_iff.mp (congrFun (h w) os)
  obtain ⟨l1, l2⟩ := Prod.mk.inj q
  unfold openEnds
  rw [e1]
  show (topFrom treeTable p w N _).map _ = _
  have t : topFrom treeTable p w N ⟨boot_heap w.params, Array.mk [], boot_drawn, boot_toks, os⟩ = some s₁ := by
    unfold topFrom
    dsimp only
    rw [z1, z2, z3, r]
    show (match staticsOk (importedModules p.main.body) (boot_heap w.params) s₁.heap && namesBound p s₁.heap && gensDone s₁ && laidKept (boot_heap w.params) s₁.heap with | true => _ | false => _) = _
    rw [l1]
  rw [t]
  exact congrArg some l2
theorem e_open : opening rowProg = plainProg rowProg.main.scope.names := by kernel_rfl
theorem e_fence (s : Shared) : fenceModules? rowProg s = some s := by kernel_rfl
noncomputable def q0 : Program := view rowProg [30]
noncomputable def loose0 : List Str := ["_wall", "least", "greatest", "next_from", "has", "has_domains", "up_to", "from_on", "without", "meet", "negation", "struck", "said_of", "Store", "Propagator", "Count", "_law_tap", "_law_drawn", "_law_fits", "_law_fit", "_law_other", "_law_is_way", "_law_once", "_law_is_right", "_law_joined", "_law_lists"]
noncomputable def xt0 (s : Shared) : Bool := xlAt q0 [] s && recOk [] s
noncomputable def yf0 (s : Shared) : AllO := allObs (fragOf s.heap)
theorem boot_size (w : World) : ((boot_heap w.params).isNs mainGlobals, (boot_heap w.params).objs.size, (boot_heap w.params).nsMap mainGlobals "__annotations__") = (true, 11, some (.ref 6)) := by kernel_rfl
end Mine
end
section
open PySem PySem.W PyProof.Rows PySem.Spec
set_option Elab.async false
set_option maxRecDepth 100000
set_option maxHeartbeats 8000000
namespace Mine
theorem well : PySem.Challenge.rw_pc0032_01.wellSaid = true := by kernel_rfl
theorem run_q (w : World) : (fun os => (PySem.W.Fast.tw14082659384304107361 PySem.W.Fast.tw14364793385576792824 rowProg w 11 (some (.ref 6)) 2400 ⟨boot_heap w.params, Array.mk [], boot_drawn, boot_toks, os⟩ (topStub rowProg)).map (fun s₁ => (staticsOk (PySem.W.Fast.tw5923862056798008813 rowProg.main.body) (boot_heap w.params) s₁.heap && namesBound rowProg s₁.heap && gensDone s₁ && laidKept (boot_heap w.params) s₁.heap, PySem.W.Fast.tw4187177175401517315 q0 loose0 (PySem.W.Fast.tw5923862056798008813 rowProg.main.body) xt0 true s₁, yf0 s₁))) = fun _ => some (true, openGood q0 loose0, allGood) := by kernel_rfl
theorem run_p (w : World) : (fun os => (topRun treeTable rowProg w 11 (some (.ref 6)) 2400 ⟨boot_heap w.params, Array.mk [], boot_drawn, boot_toks, os⟩ (topStub rowProg)).map (fun s₁ => (staticsOk (importedModules rowProg.main.body) (boot_heap w.params) s₁.heap && namesBound rowProg s₁.heap && gensDone s₁ && laidKept (boot_heap w.params) s₁.heap, openSeen q0 loose0 (importedModules rowProg.main.body) xt0 true s₁, yf0 s₁))) = fun _ => some (true, openGood q0 loose0, allGood) := by
  rw [PySem.W.Fast.te14082659384304107361, PySem.W.Fast.te14364793385576792824, PySem.W.Fast.te5923862056798008813, PySem.W.Fast.te4187177175401517315]
  exact run_q w
theorem left0 : LeftO rowProg q0 loose0 xt0 yf0 (fun _ => allGood) 2400 true := left_boot e_open (by decide) e_fence boot_size run_p
end Mine
end
open PySem PySem.W PyProof.Rows PySem.Spec
set_option Elab.async false
set_option maxRecDepth 100000
set_option maxHeartbeats 8000000
namespace Mine
theorem ints_dens {cls : Cx} {h : Heap} {ι : List Addr} : ∀ {vs : List Value} {ns : List Int}, IntsAre vs ns → Dens cls h ι (ns.map .int) vs
  | _, _, .nil => rfl
  | _, _, .cons _ _ r => ⟨_, _, rfl, ⟨_, rfl⟩, ints_dens r⟩
theorem well_list {P : Params} {h : Heap} {a : Addr} {xs : List PyData} (x : Well P h (.ref a) (ofPy (.list xs))) : ∃ vs : List Value, h.get? a = some { cls := .type "list", data := .seq vs.toArray } ∧ True := by
  generalize hd : ofPy (PyData.list xs) = d at x
  generalize hv : Value.ref a = v at x
  cases x with
  | list h1 h2 => cases hv; exact ⟨_, h1, trivial⟩
  | _ => simp [ofPy] at hd
theorem law_code {w : World} {s₁ : Shared} {cl : Str → Option Addr} {mean : ExcName → Option Value} {args : List WData} {K : Frag} (S : Seen K) (B : Base K s₁.heap) (hg : s₁.gens = #[]) {fa a : Addr} {vs : List Value} {ns : List Int} (hL : s₁.heap.IsList a vs.toArray) (hW : Well w.params s₁.heap (.ref a) (ofPy (.list (ns.map .int)))) (hI : IntsAre vs ns) (hn : ns.length ≤ 63)
    {mg : Str → Option Value} (g : s₁.heap.Ns mainGlobals mg) (hmg : mg ("law" : Str) = some (.ref fa)) :
    codeAny (model PySem.Challenge.rw_pc0032_01.row.prog w) callerA (.call (.ref fa) ⟨[.ref a], []⟩) (GoodW PySem.Challenge.rw_pc0032_01.row.claim cl mean args s₁) s₁ := by
  obtain ⟨σ', e⟩ := law_run hn
  obtain ⟨f, hk, -, -, h⟩ := (S.facts B 9).C (none, ("law" : Str)) [.lst (ns.map .int)] [] (.bool true) σ' e
  have hf := mg_of B.X g hk
  rw [hmg] at hf
  cases hf
  obtain ⟨o, ho, hc, n, hd⟩ := hL
  have hp : PlainLst s₁.heap a vs := by
    obtain ⟨vs', ho', -⟩ := well_list hW
    rw [ho] at ho'
    cases ho'
    cases hd
    exact ⟨_, ho⟩
  rw [show PySem.Challenge.rw_pc0032_01.row.prog = prog from prog_eq.symm]
  refine codeAny_mono (h ⟨cm, fun _ => False⟩ callerA (fun _ _ => False) s₁ [] [.ref a] rfl ⟨rfl, by decide, by decide⟩ ⟨fun _ _ z => z, fun _ q => ((List.not_mem_nil q).elim), List.nodup_nil, rfl, fun _ q => q.elim, fun _ _ _ q => ((by first | exact fail_e q | exact (List.not_mem_nil q).elim | exact (Bool.false_ne_true q).elim | exact nomatch q))⟩
    ⟨_, _, rfl, ⟨a, vs, rfl, ⟨List.not_mem_nil, fun q => q⟩, hp, ints_dens hI⟩, rfl⟩) fun r s' q => ?_
  cases r with
  | error e => exact q.elim
  | ok fl =>
    cases fl with
    | ret v =>
      obtain ⟨g1, o1, ext, st, k, d⟩ := q
      cases (show v = .bool true from d)
      refine ⟨.inl ⟨_, .bool true, [], rfl, fun _ => rfl, .bool true, by wrow_post, fun _ => ⟨List.nodup_nil, fun _ q => ((List.not_mem_nil q).elim)⟩⟩, k.stay, o1, g1.trans hg⟩
    | _ => exact q.elim
end Mine
open Mine in
theorem Mine.seen_of {s : Shared} (h : yf0 s = allGood) : ∃ K : Frag, K.In s.heap ∧ Seen K := ⟨fragOf s.heap, fragOf_in _, ⟨h⟩⟩
theorem PySem.Challenge.cw_pc0032_01_holds : PySem.Challenge.rw_pc0032_01.Holds := by
  refine holds_law Mine.well fun said => ?_
  refine holds_open (q := Mine.q0) (loose := Mine.loose0) (Xt := Mine.xt0) (XP := XL Mine.q0 []) (Yf := Mine.yf0) (Ya := fun _ => Mine.allGood) (YP := fun _ h => ∃ K : Frag, K.In h ∧ Mine.Seen K) (N := 2400) Mine.left0 (fun _ _ h => Mine.seen_of h) (fun _ _ _ h k => let ⟨K, h1, h2⟩ := h; ⟨K, h1.keeps k, h2⟩)
    (fun s e => xl_of s (Bool.and_eq_true_iff.mp e).1) XL.keeps (by rfl) (by rfl) (by rfl) (fun s e => recFacts_of (Bool.and_eq_true_iff.mp e).2) (by rfl) said (by decide +kernel) ⟨rfl, rfl, rfl, rfl, rfl, by decide +kernel⟩ (by w_witness2) ?_
  intro w s₀ s₁ mg mb G Y fa o pm cd doc dV kV ho hd hcd hD hmg hg args vals as hpre hlay hrd hwl hlo
  obtain ⟨K, KX, S⟩ := Y
  have T := G.T
  clear hcd hD hd
  wrow_args hpre hlay hrd hwl hlo
  refine enter_call ?_
  refine codeAny_mono ?_ (fun _ _ g => GoodW.toG g)
  rename Heap.IsList _ _ _ => hL
  rename IntsAre _ _ => hI
  rename Well _ _ _ _ => hW
  rename ¬ _ < _ => hn
  exact Mine.law_code S (S.base KX T.g T.b T.builtins T.nolimit) hg hL hW hI (by omega) T.g hmg
