/-
  Texts that are numbers; the order of atoms and facts; errors.
  Conditions: those that each theorem states.
-/
import Derived.Test.YtobihkjhlopggaaGreatDoorFmt
import Derived.Test.YtobihkjhlopggaaGreatDoorRul
import Derived.Lib.Atoi
import Derived.Lib.Bytealg
import Derived.Lib.ItoaMem
import Derived.Stop.IfaceNil
import Derived.Lib.SmallJoins
namespace Go.Sy
open Go
def ErrV (b : Bool) (e : Value) : Prop := (b = true ∧ ∃ te pe, e = .iface te pe) ∨ (b = false ∧ e = .nilIface)
section
variable {P : Program} {N : Nat} {w0 : World} {H : List Chunk} {L : Fm} {Q : Exit → Act → World → Prop} {o : Oper} {d : Nat} {K : Act → World → Prop}
theorem D_errne {t t' : TypeId} {x : Operand} {e : Value} {b : Bool} (ht : P.isIface t = true) (ho : o.op = .binOp .neq t x (.const .nilIface) t') (hx : ev L x = some e) (he : ErrV b e) : RunV P N w0 H L o (.bool b) := by
 intro a w hf _;unfold execOp;rw [ho];simp only [hf.ev hx]
 rcases he with ⟨rfl, te, pe, rfl⟩ | ⟨rfl, rfl⟩
 ·have := run_neq_iface_nil w t ht te pe;simp [eqGuard, this, Act.eval]
 ·have := run_neq_nil_nil_at w t ht;simp [eqGuard, this, Act.eval]
theorem D_mulR {t t' : TypeId} {x y : Operand} {m n : Int} (ho : o.op = .binOp .mul t x y t') (hx : ev L x = some (.int .i64 m)) (hy : ev L y = some (.int .i64 n)) (hr : -9223372036854775808 ≤ m * n ∧ m * n ≤ 9223372036854775807) : RunV P N w0 H L o (.int .i64 (m * n)) := by
 intro a w hf _;unfold execOp;rw [ho];simp only [hf.ev hx, hf.ev hy];simp [eqGuard, binOp, Op.intArith, IntWalk.i64_in _ hr]
theorem u8_wrap {m : Int} (hr : 0 ≤ m ∧ m ≤ 255) : IntKind.u8.wrap m = m := by
 have h1 : IntKind.u8.bits = 8 := rfl;have h2 : IntKind.u8.signed = false := rfl;simp only [IntKind.wrap, h1, h2];simp;omega
theorem D_sub8 {t t' : TypeId} {x y : Operand} {m n : Int} (ho : o.op = .binOp .sub t x y t') (hx : ev L x = some (.int .u8 m)) (hy : ev L y = some (.int .u8 n)) (hr : 0 ≤ m - n ∧ m - n ≤ 255) : RunV P N w0 H L o (.int .u8 (m - n)) := by
 intro a w hf _;unfold execOp;rw [ho];simp only [hf.ev hx, hf.ev hy];simp [eqGuard, binOp, Op.intArith, u8_wrap hr]
theorem D_cvw {t t' : TypeId} {x : Operand} {m : Int} (ht : P.underlying t' = some (.int .i64)) (hu : ∃ u, P.underlying t = some u) (ho : o.op = .convert t t' x) (hx : ev L x = some (.int .u8 m)) (hr : 0 ≤ m ∧ m ≤ 255) : RunV P N w0 H L o (.int .i64 m) := by
 intro a w hf _;obtain ⟨u, hu⟩ := hu;unfold execOp;rw [ho];simp [convert, hf.ev hx, run_underlying ht, run_underlying hu, Conv.intToInt, IntWalk.i64_in _ (show -9223372036854775808 ≤ m ∧ m ≤ 9223372036854775807 by omega)]
theorem cve {f : Nat} {as : List Operand} {vs : List Value} {tys : Array TypeId} {g : Value → Value} {J : Value → Prop} (hb : hasBody P f = true)
  (ho : o.op = .call ⟨.value (.func f), as.toArray, tys⟩) (ha : evs L as = some vs) (hd : o.dst = some d) (hN : Nat.blt d N = true)
  (hc : ∀ w, St w0 H w → Calls P f vs.toArray w fun e w' => ∃ x, e = .returned (g x) ∧ J x ∧ Ex w w')
  (k : ∀ x, J x → D N w0 H ((d, g x) :: L) K) : D N w0 H L (fun a w => o.wp P a w K Q) :=
 D_call (σ := Value) (val := g) (H' := fun _ => H) (J := J) hb ho ha hd hN
  (fun w hs => (hc w hs).mono fun _ _ ⟨x, he, hj, hx⟩ => ⟨x, he, hj, hs.ext hx⟩) k
end
theorem decFrom_snoc {b : UInt8} {d : Nat} (hb : Lib.digitVal b = some d) : ∀ {l : List UInt8} {acc n : Nat}, Lib.decFrom acc l = some n → Lib.decFrom acc (l ++ [b]) = some (n * 10 + d)
 | [], acc, n, h => by simp only [Lib.decFrom, Option.some.injEq] at h; subst h; simp [Lib.decFrom, hb]
 | c :: l, acc, n, h => by
  simp only [List.cons_append, Lib.decFrom] at h ⊢
  split at h
  ·exact decFrom_snoc hb h
  ·cases h
theorem dv_of {d : Nat} (h : d < 10) : Lib.digitVal (UInt8.ofNat (48 + d)) = some d := by
 have e : (UInt8.ofNat (48 + d)).toNat = 48 + d := by simp; omega
 unfold Lib.digitVal;rw [e, if_pos (by omega)]
 congr 1
 omega
theorem dec_dig (n : Nat) : Lib.decFrom 0 (Lib.decDigits n) = some n := by
 induction n using Nat.strongRecOn with
 | _ n ih =>
  by_cases h : n < 10
  ·rw [Lib.decDigits_one h];simp only [Lib.decFrom, dv_of h];simp
  ·rw [Lib.decDigits, dif_neg h, decFrom_snoc (dv_of (by omega)) (ih (n / 10) (by omega))]
   congr 1
   omega
theorem dec_all : ∀ {l : List UInt8} {acc n : Nat}, Lib.decFrom acc l = some n → ∀ b ∈ l, Lib.digitVal b ≠ none
 | [], _, _, _, b, hb => by cases hb
 | c :: l, acc, n, h, b, hb => by
  simp only [Lib.decFrom] at h
  split at h
  ·rename_i d hd
   rcases List.mem_cons.1 hb with rfl | hb
   ·rw [hd]; simp
   ·exact dec_all h b hb
  ·cases h
theorem dig_ne (n : Nat) : Lib.decDigits n ≠ [] := by
 intro e;have := Lib.decDigits_length n;rw [e] at this;have := Lib.nDigits_pos n;simp at *;omega
theorem atoi_dig (n : Nat) : Lib.atoi (Lib.decDigits n) = some (n : Int) := by
 have h1 := dec_dig n;have h2 := dig_ne n
 cases e : Lib.decDigits n with
 | nil => exact absurd e h2
 | cons b r =>
  rw [e] at h1;have hb := dec_all h1 b (by simp);have hr : 48 ≤ b.toNat ∧ b.toNat ≤ 57 := by
   unfold Lib.digitVal at hb
   split at hb
   ·assumption
   ·exact absurd rfl hb
  have n1 : (b == 45) = false := by
   rw [beq_eq_false_iff_ne]; intro e; rw [e] at hr; exact absurd hr.1 (by decide)
  have n2 : (b == 43) = false := by
   rw [beq_eq_false_iff_ne]; intro e; rw [e] at hr; exact absurd hr.1 (by decide)
  simp only [Lib.atoi, n1, n2, Lib.decNat];simp [h1]
theorem itoaB_list (n : Nat) : (itoaB (n : Int)).data.toList = Lib.decDigits n := by
 unfold itoaB;rw [Lib.itoa_nonneg]
theorem atoi_itoa (n : Nat) : Lib.atoi (itoaB (n : Int)).data.toList = some (n : Int) := by rw [itoaB_list]; exact atoi_dig n
theorem itoaB_len {n : Nat} (h : n ≤ 9999) : 1 ≤ (itoaB (n : Int)).size ∧ (itoaB (n : Int)).size ≤ 4 := by
 have e : (itoaB (n : Int)).size = Lib.nDigits n := by
  have h1 := congrArg List.length (itoaB_list n);rw [Lib.decDigits_length, Array.length_toList] at h1;exact h1
 rw [e];refine ⟨Lib.nDigits_pos n, ?_⟩
 by_cases h1 : n < 10
 ·rw [Lib.nDigits_small h1]; omega
 ·rw [Lib.nDigits_big h1]
  by_cases h2 : n / 10 < 10
  ·rw [Lib.nDigits_small h2]; omega
  ·rw [Lib.nDigits_big h2]
   by_cases h3 : n / 10 / 10 < 10
   ·rw [Lib.nDigits_small h3]; omega
   ·rw [Lib.nDigits_big h3, Lib.nDigits_small (by omega)]; omega
def pNb (m : Nat) (s : ByteArray) : Option Nat := (List.range m).find? (fun n => decide (itoaB (n : Int) = s))
theorem pNb_n {s : ByteArray} {m : Nat} (h : ∀ n : Nat, n < m → itoaB (n : Int) ≠ s) : pNb m s = none := by
 unfold pNb;rw [List.find?_eq_none];intro n hn;simpa using h n (List.mem_range.1 hn)
theorem pNb_t {s : ByteArray} {n m : Nat} (h1 : n < m) (e2 : itoaB (n : Int) = s) : pNb m s = some n := by
 cases h : pNb m s with
 | none =>
  unfold pNb at h;rw [List.find?_eq_none] at h;exact absurd (by simpa using e2) (h n (List.mem_range.2 h1))
 | some q =>
  unfold pNb at h;have := List.find?_some h;have hm : itoaB (q : Int) = s := by simpa using this
  have h1 := atoi_itoa q;have h2 := atoi_itoa n;rw [hm] at h1;rw [e2, h1] at h2;simp only [Option.some.injEq] at h2
  congr 1
  omega
def pQ (m : Nat) (s : ByteArray) : Int × Bool := match pNb m s with | some n => ((n : Int), true) | none => (0, false)
theorem pQ_n {s : ByteArray} {m : Nat} (h : ∀ n : Nat, n < m → itoaB (n : Int) ≠ s) : pQ m s = (0, false) := by unfold pQ; rw [pNb_n h]
theorem pQ_t {s : ByteArray} {n m : Nat} (h1 : n < m) (e2 : itoaB (n : Int) = s) : pQ m s = ((n : Int), true) := by unfold pQ; rw [pNb_t h1 e2]
@[irreducible] def pI (s : ByteArray) : Int := (pQ 10000 s).1
@[irreducible] def pO (s : ByteArray) : Bool := (pQ 10000 s).2
theorem pn_no {s : ByteArray} (h : ∀ n : Nat, n ≤ 9999 → itoaB (n : Int) ≠ s) : 0 = pI s ∧ false = pO s := by
 unfold pI pO;rw [pQ_n (fun n hn => h n (by omega))];exact ⟨rfl, rfl⟩
theorem pn_t {s : ByteArray} {n : Int} (h0 : 0 ≤ n) (h1 : n ≤ 9999) (e : itoaB n = s) : n = pI s ∧ true = pO s := by
 have e2 : itoaB (n.toNat : Int) = s := by rw [Int.toNat_of_nonneg h0]; exact e
 unfold pI pO;rw [pQ_t (n := n.toNat) (by omega) e2];exact ⟨by show n = (n.toNat : Int); omega, rfl⟩
theorem pn_sz {s : ByteArray} (h : (s.size : Int) < 1 ∨ 4 < (s.size : Int)) : 0 = pI s ∧ false = pO s := pn_no fun n hn e => by
 have := itoaB_len hn;rw [e] at this;omega
def aN (s : ByteArray) : Int := (Lib.atoi s.data.toList).getD 0
def aE (s : ByteArray) : Bool := (Lib.atoi s.data.toList).isNone
theorem aN_itoa {s : ByteArray} {n : Nat} (e : itoaB (n : Int) = s) : aE s = false ∧ aN s = (n : Int) := by
 have := atoi_itoa n;rw [e] at this;simp [aE, aN, this]
theorem pn_ae {s : ByteArray} (h : aE s = true) : 0 = pI s ∧ false = pO s := pn_no fun n hn e => by rw [(aN_itoa e).1] at h; cases h
theorem pn_rng {s : ByteArray} (h : aN s < 0 ∨ 9999 < aN s) : 0 = pI s ∧ false = pO s := pn_no fun n hn e => by rw [(aN_itoa e).2] at h; omega
theorem pn_ne {s : ByteArray} (h : ¬ itoaB (aN s) = s) : 0 = pI s ∧ false = pO s := pn_no fun n hn e => by rw [(aN_itoa e).2] at h; exact h e
theorem aN_rng (s : ByteArray) (h : s.size ≤ 4) : -99999 ≤ aN s ∧ aN s ≤ 99999 := by
 have key : ∀ (l : List UInt8) (acc n : Nat), Lib.decFrom acc l = some n → n < (acc + 1) * 10 ^ l.length := by
  intro l
  induction l with
  | nil => intro acc n h; simp only [Lib.decFrom, Option.some.injEq] at h; subst h; simp
  | cons b l ih =>
   intro acc n h;simp only [Lib.decFrom] at h
   split at h
   ·rename_i d hd;have h2 := ih _ _ h;have hd9 : d ≤ 9 := by
     unfold Lib.digitVal at hd
     split at hd
     ·simp only [Option.some.injEq] at hd; omega
     ·cases hd
    rw [List.length_cons, Nat.pow_succ]
    calc n < (acc * 10 + d + 1) * 10 ^ l.length := h2
     _ ≤ ((acc + 1) * 10) * 10 ^ l.length := Nat.mul_le_mul_right _ (by omega)
     _ = (acc + 1) * (10 ^ l.length * 10) := by rw [Nat.mul_assoc, Nat.mul_comm 10]
   ·cases h
 have hb : ∀ (l : List UInt8) (n : Nat), l.length ≤ 4 → Lib.decNat l = some n → n ≤ 9999 := by
  intro l n hl h;unfold Lib.decNat at h
  split at h
  ·cases h
  ·have := key l 0 n h;have : 10 ^ l.length ≤ 10 ^ 4 := Nat.pow_le_pow_right (by omega) hl;omega
 have hl : s.data.toList.length ≤ 4 := by rw [Array.length_toList]; exact h
 unfold aN
 cases e : Lib.atoi s.data.toList with
 | none => simp
 | some n =>
  simp only [Option.getD_some]
  cases hs : s.data.toList with
  | nil => rw [hs] at e; simp [Lib.atoi] at e
  | cons b r =>
   rw [hs] at e hl;rw [List.length_cons] at hl;simp only [Lib.atoi] at e
   split at e
   ·simp only [Option.map_eq_some_iff] at e;obtain ⟨m, hm, rfl⟩ := e;have := hb r m (by omega) hm;omega
   ·split at e
    ·simp only [Option.map_eq_some_iff] at e;obtain ⟨m, hm, rfl⟩ := e;have := hb r m (by omega) hm;omega
    ·simp only [Option.map_eq_some_iff] at e;obtain ⟨m, hm, rfl⟩ := e;have := hb (b :: r) m (by simpa using hl) hm;omega
def dvT (s : ByteArray) (k : Nat) (n : Int) : Prop := 0 ≤ n ∧ n < (10 ^ k : Nat) ∧ Lib.decFrom 0 (s.data.toList.take k) = some n.toNat
theorem dvT_zero (s : ByteArray) : dvT s 0 0 := ⟨by omega, by decide, by simp [Lib.decFrom]⟩
theorem sB_get {s : ByteArray} {k : Nat} (h : k < s.size) : ∃ b, s.data.toList[k]? = some b ∧ sB s k = (b.toNat : Int) := by
 have h2 : k < s.data.size := h;refine ⟨s.data[k], by simp [h2], ?_⟩;unfold sB;rw [Array.getElem?_eq_getElem h2];rfl
theorem dvT_step {s : ByteArray} {k : Nat} {n : Int} (h : dvT s k n) (hk : k < s.size) (h1 : ¬ sB s k < 48) (h2 : ¬ 57 < sB s k) : dvT s (k + 1) (10 * n + (sB s k - 48)) := by
 obtain ⟨a, b, c⟩ := h;obtain ⟨u, hu, hb⟩ := sB_get hk;have hd : Lib.digitVal u = some (u.toNat - 48) := by unfold Lib.digitVal; rw [if_pos (by omega)]
 refine ⟨by omega, ?_, ?_⟩
 ·rw [Nat.pow_succ]; omega
 ·rw [take_snoc hu, decFrom_snoc hd c]
  congr 1
  omega
theorem sp_dig {s : ByteArray} {k : Nat} (hk : k < s.size) (h : sB s k < 48 ∨ 57 < sB s k) : 0 = pI s ∧ false = pO s := pn_no fun n hn e => by
 obtain ⟨u, hu, hb⟩ := sB_get hk;have h1 := dec_dig n;rw [← itoaB_list, e] at h1;have := dec_all h1 u (List.mem_of_getElem? hu);unfold Lib.digitVal at this;rw [if_neg (by omega)] at this;exact this rfl
theorem sp_ne {s : ByteArray} {k : Nat} {n : Int} (h : dvT s k n) (hk : s.size ≤ k) (h2 : ¬ itoaB n = s) : 0 = pI s ∧ false = pO s := pn_no fun m hm e => by
 obtain ⟨a, b, c⟩ := h;have hl : s.data.toList.length ≤ k := by rw [Array.length_toList]; exact hk
 rw [List.take_of_length_le hl] at c;have h1 := dec_dig m;rw [← itoaB_list, e, c] at h1;simp only [Option.some.injEq] at h1
 apply h2
 rw [← e]
 congr 1
 omega
theorem dvT_le {s : ByteArray} {k : Nat} {n : Int} (h : dvT s k n) (hk : k ≤ 4) : 0 ≤ n ∧ n ≤ 9999 := by
 obtain ⟨a, b, c⟩ := h;have : 10 ^ k ≤ 10 ^ 4 := Nat.pow_le_pow_right (by omega) hk;omega
def cmZ (a b : Int) : Int := if a < b then -1 else if b < a then 1 else 0
def cmS (a b : ByteArray) : Int := if ltS a b = true then -1 else if ltS b a = true then 1 else 0
theorem cmp_bytes : ∀ a b : List UInt8, Lib.compareBytes a b = if Op.bytesLess a b = true then -1 else if Op.bytesLess b a = true then 1 else 0
 | [], [] => rfl
 | [], _ :: _ => rfl
 | _ :: _, [] => rfl
 | x :: a, y :: b => by
  rw [Lib.compareBytes, cmp_bytes a b];simp only [Op.bytesLess]
  by_cases h1 : x < y
  ·simp [h1]
  ·by_cases h2 : y < x
   ·have e : (x == y) = false := by rw [beq_eq_false_iff_ne]; intro e; subst e; exact h1 h2
    simp [h1, h2, e]
   ·have e : x = y := by
     have h3 : ¬ x.toNat < y.toNat := h1;have h4 : ¬ y.toNat < x.toNat := h2;exact UInt8.toNat_inj.1 (by omega)
    subst e;simp [h1]
theorem cmp_str (a b : ByteArray) : Lib.compareBytes a.data.toList b.data.toList = cmS a b := by
 rw [cmp_bytes];unfold cmS ltS;rw [tl_eq, tl_eq]
theorem cmS_ne {a b : ByteArray} (h : a ≠ b) : cmS a b ≠ 0 := by
 unfold cmS
 split
 ·omega
 ·split
  ·omega
  ·rename_i h1 h2;exact absurd (ltS_tot (by simpa using h1) (by simpa using h2)) h
theorem cmS_gt {a b : ByteArray} (h : ltS a b = false) (h2 : ¬ a = b) : 1 = cmS a b := by
 have h3 : ltS b a = true := by
  cases e : ltS b a with
  | true => rfl
  | false => exact absurd (ltS_tot h e) h2
 unfold cmS;simp [h, h3]
theorem cmS_self (a : ByteArray) : cmS a a = 0 := by unfold cmS; simp [ltS_irrefl]
def cmpA (a b : ByteArray) : Int := if pO a = true ∧ pO b = true then cmZ (pI a) (pI b) else if pO a = true then -1 else if pO b = true then 1 else cmS a b
def cmpL : List ByteArray → List ByteArray → Int
 | [], [] => 0
 | [], _ :: _ => -1
 | _ :: _, [] => 1
 | a :: l, b :: m => if cmpA a b = 0 then cmpL l m else cmpA a b
def cmpF (f g : Fact) : Int := if f.Rel = g.Rel then cmpL f.Args g.Args else cmS f.Rel g.Rel
theorem cmpL_step : ∀ {l m : List ByteArray} {k : Nat} {a b : ByteArray}, (∀ (i : Nat), i < k → ∀ (x y : ByteArray), l[i]? = some x → m[i]? = some y → cmpA x y = 0) → l[k]? = some a → m[k]? = some b → cmpA a b ≠ 0 → cmpA a b = cmpL l m
 | [], _, _, _, _, _, h, _, _ => by simp at h
 | _ :: _, [], _, _, _, _, _, h, _ => by simp at h
 | x :: l, y :: m, 0, a, b, _, h1, h2, h3 => by
  simp only [List.getElem?_cons_zero, Option.some.injEq] at h1 h2;subst h1; subst h2;simp [cmpL, h3]
 | x :: l, y :: m, k + 1, a, b, h, h1, h2, h3 => by
  simp only [List.getElem?_cons_succ] at h1 h2;rw [cmpL, if_pos (h 0 (by omega) x y rfl rfl)];exact cmpL_step (fun i hi x y hx hy => h (i + 1) (by omega) x y (by simpa using hx) (by simpa using hy)) h1 h2 h3
theorem cmpL_end : ∀ {l m : List ByteArray}, (∀ (i : Nat) (x y : ByteArray), l[i]? = some x → m[i]? = some y → cmpA x y = 0) → cmZ (l.length : Int) (m.length : Int) = cmpL l m
 | [], [], _ => by simp [cmZ, cmpL]
 | [], _ :: _, _ => by simp [cmZ, cmpL] <;> omega
 | _ :: _, [], _ => by simp [cmZ, cmpL] <;> omega
 | x :: l, y :: m, h => by
  rw [cmpL, if_pos (h 0 x y rfl rfl), ← cmpL_end (fun i a b ha hb => h (i + 1) a b (by simpa using ha) (by simpa using hb))];unfold cmZ;simp only [List.length_cons]
  split <;> split <;> (try split) <;> (try split) <;> omega
theorem cmS_eq {a b : ByteArray} (h : cmS a b = 0) : a = b := Classical.byContradiction fun e => cmS_ne e h
theorem cmpF_rel {f g : Fact} (h : ¬ cmS f.Rel g.Rel = 0) : cmS f.Rel g.Rel = cmpF f g := by
 unfold cmpF;rw [if_neg (fun e => h (by rw [e]; exact cmS_self _))]
theorem cmpF_ne {f g : Fact} (h : ¬ f.Rel = g.Rel) : cmS f.Rel g.Rel = cmpF f g := by
 unfold cmpF;rw [if_neg h]
theorem cmpF_arg {f g : Fact} {k : Nat} {a b : ByteArray} (he : f.Rel = g.Rel) (h : ∀ (i : Nat), i < k → ∀ (x y : ByteArray), f.Args[i]? = some x → g.Args[i]? = some y → cmpA x y = 0) (ha : f.Args[k]? = some a) (hb : g.Args[k]? = some b) (hn : ¬ cmpA a b = 0) : cmpA a b = cmpF f g := by
 unfold cmpF;rw [if_pos he];exact cmpL_step h ha hb hn
theorem cmpF_end {f g : Fact} (he : f.Rel = g.Rel) (h : ∀ (i : Nat) (x y : ByteArray), f.Args[i]? = some x → g.Args[i]? = some y → cmpA x y = 0) : cmZ (f.Args.length : Int) (g.Args.length : Int) = cmpF f g := by
 unfold cmpF;rw [if_pos he];exact cmpL_end h
end Go.Sy
namespace Go.Sy
open Go Go.RowKit
structure ISet where
  l : List Int
def ISet.has (s : ISet) (z : Int) : Bool := s.l.contains z
def ISet.add (s : ISet) (z : Int) : ISet := ⟨s.l ++ [z]⟩
def entB (l : List Int) : List (Value × Value) := l.map (fun x => (Value.int .i64 x, Value.bool true))
def owMap (w : World) (cs : List Value) (x : ISet) (fp : List Nat) : Prop :=
 ∃ (g : Nat) (es : Array MapEntry) (clock : Nat), cs = [.map (some g)] ∧ fp = [g] ∧ w.heap[g]? = some (.map es clock) ∧ es.toList.map (fun e => (e.key, e.val)) = entB x.l
instance instISet : Gd ISet where
 n := 1
 st := false
 rd := fun _ cs _ => ∃ g, cs = [.map (some g)]
 ow := owMap
 rd_len := fun h => by obtain ⟨g, e⟩ := h; rw [e]; rfl
 rd_one := fun h u hu => by obtain ⟨g, e⟩ := h; rw [e] at hu; simp only [List.mem_singleton] at hu; rw [hu]; rfl
 rd_sub := fun _ h => h
 ow_loc := fun h hs => by
  obtain ⟨g, es, c, h1, h2, h3, h4⟩ := h;exact ⟨g, es, c, h1, h2, by rw [hs g (by rw [h2]; simp)]; exact h3, h4⟩
 ow_lt := fun h k hk => by
  obtain ⟨g, es, c, h1, h2, h3, h4⟩ := h;rw [h2] at hk;simp only [List.mem_singleton] at hk;rw [hk]
  rcases Nat.lt_or_ge g (_ : World).heap.size with hh | hh
  ·exact hh
  ·rw [Array.getElem?_eq_none hh] at h3; cases h3
 ow_rd := fun h => by obtain ⟨g, _, _, h1, _⟩ := h; exact ⟨g, h1⟩
theorem find_t (z : Int) : ∀ (es : List MapEntry) (l : List Int) (i : Nat), es.map (fun e => (e.key, e.val)) = entB l → l.contains z = true → ∃ j, Instr.findNow (.int .i64) (.int .i64 z) es i = some (some (j, .bool true))
 | [], [], _, _, h => by simp at h
 | [], _ :: _, _, h, _ => by simp [entB] at h
 | _ :: _, [], _, h, _ => by simp [entB] at h
 | e :: es, x :: l, i, h, hc => by
  simp only [entB, List.map_cons, List.cons.injEq, Prod.mk.injEq] at h;obtain ⟨⟨h1, h2⟩, h3⟩ := h;unfold Instr.findNow;rw [h1];simp only [Instr.sameNow, if_true]
  by_cases hz : z = x
  ·subst hz;simp [h2]
  ·have hb : (z == x) = false := by simpa using hz
   rw [hb];refine find_t z es l (i + 1) h3 ?_;simpa [hz] using hc
theorem find_f (z : Int) : ∀ (es : List MapEntry) (l : List Int) (i : Nat), es.map (fun e => (e.key, e.val)) = entB l → l.contains z = false → Instr.findNow (.int .i64) (.int .i64 z) es i = some none
 | [], [], _, _, _ => rfl
 | [], _ :: _, _, h, _ => by simp [entB] at h
 | _ :: _, [], _, h, _ => by simp [entB] at h
 | e :: es, x :: l, i, h, hc => by
  simp only [entB, List.map_cons, List.cons.injEq, Prod.mk.injEq] at h;obtain ⟨⟨h1, h2⟩, h3⟩ := h;have hz : ¬ z = x ∧ l.contains z = false := by simpa using hc
  unfold Instr.findNow;rw [h1];simp only [Instr.sameNow, if_true];have hb : (z == x) = false := by simpa using hz.1
  rw [hb];exact find_f z es l (i + 1) h3 hz.2
section
variable {P : Program} {N : Nat} {w0 : World} {H : List Chunk} {L : Fm} {Q : Exit → Act → World → Prop} {o : Oper} {d : Nat} {K : Act → World → Prop}
theorem mg_run {w : World} {r : Nat} {es : Array MapEntry} {clock : Nat} (h : w.heap[r]? = some (.map es clock)) : (getObj r).run P w = .ok (.map es clock) w := by simp [getObj, Sem.run, h]
theorem ms_run {w : World} {r : Nat} {es : Array MapEntry} {clock : Nat} (ob : Obj) (h : w.heap[r]? = some (.map es clock)) : (setObj r ob).run P w = .ok () { w with heap := w.heap.setIfInBounds r ob } := by simp [setObj, Sem.run, h]
theorem D_mkmap {t : TypeId} (ho : o.op = .makeMap t none) (hd : o.dst = some d) (hN : Nat.blt d N = true) (k : ∀ g, D N w0 (ov [.map (some g)] (⟨[]⟩ : ISet) :: H) ((d, .map (some g)) :: L) K) : D N w0 H L (fun a w => o.wp P a w K Q) := by
 refine D_gen hd hN (fun a w hf hs => ⟨.map (some w.heap.size), w.alloc (.map #[] 0), ?_, fun a' hf' => k _ a' _ hf' (hs.push (fp := [w.heap.size]) (Ex.alloc w _) ⟨_, #[], 0, rfl, rfl, heap_alloc_new w _, rfl⟩ (by simp) ?_)⟩)
 ·unfold execOp;rw [ho];simp [Instr.makeMap]
 ·intro g hg;simp only [List.mem_singleton] at hg;subst hg;simp
theorem run_checkKey (w : World) {key : TypeId} (hk : P.underlying key = some (.int .i64)) (b : Bool) (z : Int) : (Instr.checkKey b 10000 key (.int .i64 z)).run P w = .ok () w := by
 have h : ∀ n : Nat, (Instr.checkKey b (n + 1) key (.int .i64 z)).run P w = .ok () w := fun n => by
  rw [Instr.checkKey];simp [run_underlying hk]
 exact h 9999
theorem D_lookup {t key elem g : Nat} {x y : Operand} {z : Int} {s : ISet} (k : Nat) (ht : P.underlying t = some (.map key elem)) (hkey : P.underlying key = some (.int .i64)) (hz : zeroTy P elem = some (.bool false)) (ho : o.op = .lookup t x y false) (hx : ev L x = some (.map (some g))) (hy : ev L y = some (.int .i64 z))
  (hk : H[k]? = some (ov [.map (some g)] s)) : RunV P N w0 H L o (.bool (s.has z)) := by
 intro a w hf hs;obtain ⟨fp, ⟨g', es, c, h1, h2, h3, h4⟩, _⟩ := hs.at hk;simp only [List.cons.injEq, and_true, Value.map.injEq, Option.some.injEq] at h1;subst h1;unfold zeroTy at hz;unfold execOp;rw [ho]
 cases hi : P.info? elem with
 | none => rw [hi] at hz; simp at hz
 | some i =>
  rw [hi] at hz;simp only [Option.bind_some] at hz;unfold ISet.has
  cases hc : s.l.contains z with
  | true =>
   obtain ⟨j, hj⟩ := find_t z es.toList s.l 0 h4 hc;simp [Instr.lookup, hf.ev hx, hf.ev hy, run_underlying ht, mg_run h3, run_checkKey w hkey, Instr.findKey, run_underlying hkey, hj]
  | false =>
   have hj := find_f z es.toList s.l 0 h4 hc;simp [Instr.lookup, hf.ev hx, hf.ev hy, run_underlying ht, mg_run h3, run_checkKey w hkey, Instr.findKey, run_underlying hkey, hj, zeroValue, typeInfo, hi, hz]
theorem D_mapup {t key elem g : Nat} {x y v : Operand} {z : Int} {s : ISet} (k : Nat) (ht : P.underlying t = some (.map key elem)) (hkey : P.underlying key = some (.int .i64)) (ho : o.op = .mapUpdate t x y v) (hx : ev L x = some (.map (some g))) (hy : ev L y = some (.int .i64 z)) (hv : ev L v = some (.bool true)) (hd : o.dst = none)
  (hk : H[k]? = some (ov [.map (some g)] s)) (hn : s.has z = false) (r : D N w0 (H.set k (ov [.map (some g)] (s.add z))) L K) : D N w0 H L (fun a w => o.wp P a w K Q) := by
 refine D_gen0 hd (fun a w hf hs => ?_);obtain ⟨fp, ⟨g', es, c, h1, h2, h3, h4⟩, hnd, hb, put⟩ := hs.set hk;simp only [List.cons.injEq, and_true, Value.map.injEq, Option.some.injEq] at h1;subst h1;subst h2;have hlt : g < w.heap.size := (hb g (by simp)).2;have hj := find_f z es.toList s.l 0 h4 hn;refine ⟨{ w with heap := w.heap.setIfInBounds g (.map (es.push { key := .int .i64 z, val := .bool true, born := c }) (c + 1)) }, ?_, fun a' hf' => r a' _ hf' (put _ (ov [.map (some g)] (s.add z)) [g] ⟨rfl, rfl, rfl, by simp, fun q hq hqn => ?_⟩ ?_ (by simp) (fun q hq => ⟨.inl hq, by have := hb q hq; simpa using this.2⟩))⟩
 ·unfold execOp;rw [ho];simp [Instr.mapUpdate, hf.ev hx, hf.ev hy, hf.ev hv, run_underlying ht, mg_run h3, run_checkKey w hkey, Instr.findKey, run_underlying hkey, hj, ms_run _ h3]
 ·have hne : g ≠ q := fun e => hqn (by simp [e])
  simp [Array.getElem?_setIfInBounds, hne]
 ·refine ⟨g, es.push { key := .int .i64 z, val := .bool true, born := c }, c + 1, rfl, rfl, by simp [Array.getElem?_setIfInBounds, hlt], ?_⟩;have e : entB (s.add z).l = entB s.l ++ [(Value.int .i64 z, Value.bool true)] := by simp [entB, ISet.add]
  rw [e, ← h4];simp
end
end Go.Sy
namespace Go.Sy
open Go
def factAt (l : List Fact) (k : Nat) : Bool := match l[k]? with
 | none => false
 | some f => isFactB f && (decide (k = 0) || (match l[k - 1]? with | none => false | some p => decide (cmpF p f < 0)))
def areFactsB (l : List Fact) : Bool := decide (l.length ≤ 24) && (List.range l.length).all (factAt l)
theorem factAt_0 {l : List Fact} {k : Nat} {f : Fact} (h : l[k]? = some f) (h1 : isFactB f = true) (hk : k = 0) : factAt l k = true := by subst hk; simp [factAt, h, h1]
theorem factAt_s {l : List Fact} {k j : Nat} {f p : Fact} (h : l[k]? = some f) (hp : l[j]? = some p) (hj : j = k - 1) (h1 : isFactB f = true) (hc : cmpF p f < 0) : factAt l k = true := by subst hj; simp [factAt, h, h1, hp, hc]
theorem factAt_f1 {l : List Fact} {k : Nat} {f : Fact} (h : l[k]? = some f) (h1 : isFactB f = false) : factAt l k = false := by simp [factAt, h, h1]
theorem factAt_f2 {l : List Fact} {k j : Nat} {f p : Fact} (h : l[k]? = some f) (hp : l[j]? = some p) (hj : j = k - 1 ∧ 0 < k) (hc : ¬ cmpF p f < 0) : factAt l k = false := by
 obtain ⟨rfl, hk⟩ := hj;have : k ≠ 0 := by omega
 simp [factAt, h, hp, hc, this]
theorem af_n1 {l : List Fact} (h : ¬ l.length ≤ 24) : false = areFactsB l := by unfold areFactsB; rw [decide_eq_false h]; rfl
theorem af_n2 {l : List Fact} {k : Nat} (hk : k < l.length) (h : factAt l k = false) : false = areFactsB l := by
 unfold areFactsB;have : (List.range l.length).all (factAt l) = false := by rw [List.all_eq_false]; exact ⟨k, by simpa using hk, by rw [h]; simp⟩
 rw [this]; simp
theorem af_all {l : List Fact} (hi : ∀ i, i < l.length → factAt l i = true) : decide (l.length ≤ 24) = areFactsB l := by
 unfold areFactsB;have : (List.range l.length).all (factAt l) = true := by rw [List.all_eq_true]; intro i h; exact hi i (by simpa using h)
 rw [this]; simp
theorem af_y {l : List Fact} (h : l.length ≤ 24) (hi : ∀ i, i < l.length → factAt l i = true) : true = areFactsB l := by rw [← af_all hi, decide_eq_true h]
theorem af_z {l : List Fact} (hi : ∀ i, i < l.length → factAt l i = true) : decide ((l.length : Int) ≤ 24) = areFactsB l := by rw [← af_all hi, Bool.eq_iff_iff]; simp; omega
theorem okF_map {l : List Stamp} (h : okL okStamp l) : okL okFa (l.map (·.Fact)) := fun f hf => by
 obtain ⟨s, hs, rfl⟩ := List.mem_map.1 hf;exact (h s hs).1
def seenT (l : List Stamp) (k : Nat) : ISet := ⟨(l.take k).map (·.Time)⟩
theorem seenT_step {l : List Stamp} {k : Nat} {s : Stamp} (h : l[k]? = some s) : ISet.add (seenT l k) s.Time = seenT l (k + 1) := by
 unfold seenT ISet.add; rw [take_snoc h, List.map_append]; rfl
def timeAt (l : List Stamp) (k : Nat) : Bool := match l[k]? with | none => false | some s => inR s.Time 1 200 && !((seenT l k).has s.Time)
def isMemB (l : List Stamp) : Bool := (List.range l.length).all (timeAt l) && areFactsB (l.map (·.Fact))
theorem timeAt_t {l : List Stamp} {k : Nat} {s : Stamp} (h : l[k]? = some s) (h1 : inR s.Time 1 200 = true) (h2 : (seenT l k).has s.Time = false) : timeAt l k = true := by simp [timeAt, h, h1, h2]
theorem timeAt_f1 {l : List Stamp} {k : Nat} {s : Stamp} (h : l[k]? = some s) (h1 : inR s.Time 1 200 = false) : timeAt l k = false := by simp [timeAt, h, h1]
theorem timeAt_f2 {l : List Stamp} {k : Nat} {s : Stamp} (h : l[k]? = some s) (h2 : (seenT l k).has s.Time = true) : timeAt l k = false := by simp [timeAt, h, h2]
theorem seen_iff {l : List Stamp} {k : Nat} {z : Int} : (seenT l k).has z = true ↔ ∃ i, i < k ∧ ∃ q, l[i]? = some q ∧ q.Time = z := by
 unfold seenT ISet.has;rw [List.contains_iff_mem, List.mem_map]
 constructor
 ·rintro ⟨q, hq, e⟩;obtain ⟨i, hi⟩ := List.getElem?_of_mem hq;rw [List.getElem?_take] at hi
  split at hi
  ·exact ⟨i, by assumption, q, hi, e⟩
  ·cases hi
 ·rintro ⟨i, hi, q, hq, e⟩;refine ⟨q, List.mem_of_getElem? (i := i) ?_, e⟩;rw [List.getElem?_take, if_pos hi]; exact hq
theorem timeAt_s {l : List Stamp} {k : Nat} {s : Stamp} (h : l[k]? = some s) (h1 : inR s.Time 1 200 = true) (h2 : ∀ i, i < k → ∀ q, l[i]? = some q → q.Time ≠ s.Time) : timeAt l k = true := by
 refine timeAt_t h h1 ?_;rw [Bool.eq_false_iff];intro hc;obtain ⟨i, hi, q, hq, e⟩ := seen_iff.1 hc;exact h2 i hi q hq e
theorem timeAt_f3 {l : List Stamp} {k j : Nat} {s q : Stamp} (h : l[k]? = some s) (hq : l[j]? = some q) (hj : j < k) (e : q.Time = s.Time) : timeAt l k = false := timeAt_f2 h (seen_iff.2 ⟨j, hj, q, hq, e⟩)
theorem mem_n {l : List Stamp} {k : Nat} (hk : k < l.length) (h : timeAt l k = false) : false = isMemB l := by
 unfold isMemB;have : (List.range l.length).all (timeAt l) = false := by rw [List.all_eq_false]; exact ⟨k, by simpa using hk, by rw [h]; simp⟩
 rw [this]; rfl
theorem mem_y {l : List Stamp} (hi : ∀ i, i < l.length → timeAt l i = true) : areFactsB (l.map (·.Fact)) = isMemB l := by
 unfold isMemB;have : (List.range l.length).all (timeAt l) = true := by rw [List.all_eq_true]; intro i h; exact hi i (by simpa using h)
 rw [this]; simp
theorem findT_lt (l : List Rule) (n : ByteArray) : -1 ≤ findT l n ∧ findT l n < l.length := by
 unfold findT
 split
 ·omega
 ·rename_i i h;have := (List.findIdx?_eq_some_iff_getElem.1 h).1;omega
def hasF (l : List Firing) (r : ByteArray) (ts : List Int) : Bool := l.any (fun f => decide (f.Rule = r) && decide (f.Times = ts))
theorem hasF_t {l : List Firing} {r : ByteArray} {ts : List Int} {i : Nat} {f : Firing} (h : l[i]? = some f) (h1 : f.Rule = r) (h2 : f.Times = ts) : true = hasF l r ts := by
 symm; unfold hasF; rw [List.any_eq_true]; exact ⟨f, List.mem_of_getElem? h, by simp [h1, h2]⟩
theorem hasF_f {l : List Firing} {r : ByteArray} {ts : List Int} (h : ∀ i, i < l.length → ∀ f, l[i]? = some f → ¬ (f.Rule = r ∧ f.Times = ts)) : false = hasF l r ts := by
 symm; unfold hasF; rw [List.any_eq_false]; intro f hf
 obtain ⟨i, hi⟩ := List.getElem?_of_mem hf;have := h i (lS hi) f hi;simpa using this
end Go.Sy
