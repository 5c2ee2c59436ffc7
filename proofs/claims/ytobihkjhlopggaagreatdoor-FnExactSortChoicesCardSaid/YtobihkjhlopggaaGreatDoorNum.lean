/-
  Texts that are numbers; the order of atoms and facts; errors.
  Conditions: those that each theorem states.
-/
import Derived.Test.YtobihkjhlopggaaGreatDoorFmt
import Derived.Test.YtobihkjhlopggaaGreatDoorRul
import Derived.Lib.Atoi
import Derived.Lib.Bytealg
import Derived.Lib.ItoaMem
import Derived.Stop.IfaceNil
import Derived.Lib.SmallJoins
namespace Go.Sy
open Go
def ErrV (b : Bool) (e : Value) : Prop := (b = true ∧ ∃ te pe, e = .iface te pe) ∨ (b = false ∧ e = .nilIface)
section
variable {P : Program} {N : Nat} {w0 : World} {H : List Chunk} {L : Fm} {Q : Exit → Act → World → Prop} {o : Oper} {d : Nat} {K : Act → World → Prop}
theorem D_errne {t t' : TypeId} {x : Operand} {e : Value} {b : Bool} (ht : P.isIface t = true) (ho : o.op = .binOp .neq t x (.const .nilIface) t') (hx : ev L x = some e) (he : ErrV b e) : RunV P N w0 H L o (.bool b) := by
 intro a w hf _;unfold execOp;rw [ho];simp only [hf.ev hx]
 rcases he with ⟨rfl, te, pe, rfl⟩ | ⟨rfl, rfl⟩
 ·have := run_neq_iface_nil w t ht te pe;simp [eqGuard, this, Act.eval]
 ·have := run_neq_nil_nil_at w t ht;simp [eqGuard, this, Act.eval]
theorem D_mulR {t t' : TypeId} {x y : Operand} {m n : Int} (ho : o.op = .binOp .mul t x y t') (hx : ev L x = some (.int .i64 m)) (hy : ev L y = some (.int .i64 n)) (hr : -9223372036854775808 ≤ m * n ∧ m * n ≤ 9223372036854775807) : RunV P N w0 H L o (.int .i64 (m * n)) := by
 intro a w hf _;unfold execOp;rw [ho];simp only [hf.ev hx, hf.ev hy];simp [eqGuard, binOp, Op.intArith, IntWalk.i64_in _ hr]
theorem u8_wrap {m : Int} (hr : 0 ≤ m ∧ m ≤ 255) : IntKind.u8.wrap m = m := by
 have h1 : IntKind.u8.bits = 8 := rfl;have h2 : IntKind.u8.signed = false := rfl;simp only [IntKind.wrap, h1, h2];simp;omega
theorem D_sub8 {t t' : TypeId} {x y : Operand} {m n : Int} (ho : o.op = .binOp .sub t x y t') (hx : ev L x = some (.int .u8 m)) (hy : ev L y = some (.int .u8 n)) (hr : 0 ≤ m - n ∧ m - n ≤ 255) : RunV P N w0 H L o (.int .u8 (m - n)) := by
 intro a w hf _;unfold execOp;rw [ho];simp only [hf.ev hx, hf.ev hy];simp [eqGuard, binOp, Op.intArith, u8_wrap hr]
theorem D_cvw {t t' : TypeId} {x : Operand} {m : Int} (ht : P.underlying t' = some (.int .i64)) (hu : ∃ u, P.underlying t = some u) (ho : o.op = .convert t t' x) (hx : ev L x = some (.int .u8 m)) (hr : 0 ≤ m ∧ m ≤ 255) : RunV P N w0 H L o (.int .i64 m) := by
 intro a w hf _;obtain ⟨u, hu⟩ := hu;unfold execOp;rw [ho];simp [convert, hf.ev hx, run_underlying ht, run_underlying hu, Conv.intToInt, IntWalk.i64_in _ (show -9223372036854775808 ≤ m ∧ m ≤ 9223372036854775807 by omega)]
theorem cve {f : Nat} {as : List Operand} {vs : List Value} {tys : Array TypeId} {g : Value → Value} {J : Value → Prop} (hb : hasBody P f = true)
  (ho : o.op = .call ⟨.value (.func f), as.toArray, tys⟩) (ha : evs L as = some vs) (hd : o.dst = some d) (hN : Nat.blt d N = true)
  (hc : ∀ w, St w0 H w → Calls P f vs.toArray w fun e w' => ∃ x, e = .returned (g x) ∧ J x ∧ Ex w w')
  (k : ∀ x, J x → D N w0 H ((d, g x) :: L) K) : D N w0 H L (fun a w => o.wp P a w K Q) :=
 D_call (σ := Value) (val := g) (H' := fun _ => H) (J := J) hb ho ha hd hN
  (fun w hs => (hc w hs).mono fun _ _ ⟨x, he, hj, hx⟩ => ⟨x, he, hj, hs.ext hx⟩) k
end
theorem decFrom_snoc {b : UInt8} {d : Nat} (hb : Lib.digitVal b = some d) : ∀ {l : List UInt8} {acc n : Nat}, Lib.decFrom acc l = some n → Lib.decFrom acc (l ++ [b]) = some (n * 10 + d)
 | [], acc, n, h => by simp only [Lib.decFrom, Option.some.injEq] at h; subst h; simp [Lib.decFrom, hb]
 | c :: l, acc, n, h => by
  simp only [List.cons_append, Lib.decFrom] at h ⊢
  split at h
  ·exact decFrom_snoc hb h
  ·cases h
theorem dv_of {d : Nat} (h : d < 10) : Lib.digitVal (UInt8.ofNat (48 + d)) = some d := by
 have e : (UInt8.ofNat (48 + d)).toNat = 48 + d := by simp; omega
 unfold Lib.digitVal;rw [e, if_pos (by omega)]
 congr 1
 omega
theorem dec_dig (n : Nat) : Lib.decFrom 0 (Lib.decDigits n) = some n := by
 induction n using Nat.strongRecOn with
 | _ n ih =>
  by_cases h : n < 10
  ·rw [Lib.decDigits_one h];simp only [Lib.decFrom, dv_of h];simp
  ·rw [Lib.decDigits, dif_neg h, decFrom_snoc (dv_of (by omega)) (ih (n / 10) (by omega))]
   congr 1
   omega
theorem dec_all : ∀ {l : List UInt8} {acc n : Nat}, Lib.decFrom acc l = some n → ∀ b ∈ l, Lib.digitVal b ≠ none
 | [], _, _, _, b, hb => by cases hb
 | c :: l, acc, n, h, b, hb => by
  simp only [Lib.decFrom] at h
  split at h
  ·rename_i d hd
   rcases List.mem_cons.1 hb with rfl | hb
   ·rw [hd]; simp
   ·exact dec_all h b hb
  ·cases h
theorem dig_ne (n : Nat) : Lib.decDigits n ≠ [] := by
 intro e;have := Lib.decDigits_length n;rw [e] at this;have := Lib.nDigits_pos n;simp at *;omega
theorem atoi_dig (n : Nat) : Lib.atoi (Lib.decDigits n) = some (n : Int) := by
 have h1 := dec_dig n;have h2 := dig_ne n
 cases e : Lib.decDigits n with
 | nil => exact absurd e h2
 | cons b r =>
  rw [e] at h1;have hb := dec_all h1 b (by simp);have hr : 48 ≤ b.toNat ∧ b.toNat ≤ 57 := by
   unfold Lib.digitVal at hb
   split at hb
   ·assumption
   ·exact absurd rfl hb
  have n1 : (b == 45) = false := by
   rw [beq_eq_false_iff_ne]; intro e; rw [e] at hr; exact absurd hr.1 (by decide)
  have n2 : (b == 43) = false := by
   rw [beq_eq_false_iff_ne]; intro e; rw [e] at hr; exact absurd hr.1 (by decide)
  simp only [Lib.atoi, n1, n2, Lib.decNat];simp [h1]
theorem itoaB_list (n : Nat) : (itoaB (n : Int)).data.toList = Lib.decDigits n := by
 unfold itoaB;rw [Lib.itoa_nonneg]
theorem atoi_itoa (n : Nat) : Lib.atoi (itoaB (n : Int)).data.toList = some (n : Int) := by rw [itoaB_list]; exact atoi_dig n
theorem itoaB_len {n : Nat} (h : n ≤ 9999) : 1 ≤ (itoaB (n : Int)).size ∧ (itoaB (n : Int)).size ≤ 4 := by
 have e : (itoaB (n : Int)).size = Lib.nDigits n := by
  have h1 := congrArg List.length (itoaB_list n);rw [Lib.decDigits_length, Array.length_toList] at h1;exact h1
 rw [e];refine ⟨Lib.nDigits_pos n, ?_⟩
 by_cases h1 : n < 10
 ·rw [Lib.nDigits_small h1]; omega
 ·rw [Lib.nDigits_big h1]
  by_cases h2 : n / 10 < 10
  ·rw [Lib.nDigits_small h2]; omega
  ·rw [Lib.nDigits_big h2]
   by_cases h3 : n / 10 / 10 < 10
   ·rw [Lib.nDigits_small h3]; omega
   ·rw [Lib.nDigits_big h3, Lib.nDigits_small (by omega)]; omega
def pNb (m : Nat) (s : ByteArray) : Option Nat := (List.range m).find? (fun n => decide (itoaB (n : Int) = s))
theorem pNb_n {s : ByteArray} {m : Nat} (h : ∀ n : Nat, n < m → itoaB (n : Int) ≠ s) : pNb m s = none := by
 unfold pNb;rw [List.find?_eq_none];intro n hn;simpa using h n (List.mem_range.1 hn)
theorem pNb_t {s : ByteArray} {n m : Nat} (h1 : n < m) (e2 : itoaB (n : Int) = s) : pNb m s = some n := by
 cases h : pNb m s with
 | none =>
  unfold pNb at h;rw [List.find?_eq_none] at h;exact absurd (by simpa using e2) (h n (List.mem_range.2 h1))
 | some q =>
  unfold pNb at h;have := List.find?_some h;have hm : itoaB (q : Int) = s := by simpa using this
  have h1 := atoi_itoa q;have h2 := atoi_itoa n;rw [hm] at h1;rw [e2, h1] at h2;simp only [Option.some.injEq] at h2
  congr 1
  omega
def pQ (m : Nat) (s : ByteArray) : Int × Bool := match pNb m s with | some n => ((n : Int), true) | none => (0, false)
theorem pQ_n {s : ByteArray} {m : Nat} (h : ∀ n : Nat, n < m → itoaB (n : Int) ≠ s) : pQ m s = (0, false) := by unfold pQ; rw [pNb_n h]
theorem pQ_t {s : ByteArray} {n m : Nat} (h1 : n < m) (e2 : itoaB (n : Int) = s) : pQ m s = ((n : Int), true) := by unfold pQ; rw [pNb_t h1 e2]
@[irreducible] def pI (s : ByteArray) : Int := (pQ 10000 s).1
@[irreducible] def pO (s : ByteArray) : Bool := (pQ 10000 s).2
theorem pn_no {s : ByteArray} (h : ∀ n : Nat, n ≤ 9999 → itoaB (n : Int) ≠ s) : 0 = pI s ∧ false = pO s := by
 unfold pI pO;rw [pQ_n (fun n hn => h n (by omega))];exact ⟨rfl, rfl⟩
theorem pn_t {s : ByteArray} {n : Int} (h0 : 0 ≤ n) (h1 : n ≤ 9999) (e : itoaB n = s) : n = pI s ∧ true = pO s := by
 have e2 : itoaB (n.toNat : Int) = s := by rw [Int.toNat_of_nonneg h0]; exact e
 unfold pI pO;rw [pQ_t (n := n.toNat) (by omega) e2];exact ⟨by show n = (n.toNat : Int); omega, rfl⟩
theorem pn_sz {s : ByteArray} (h : (s.size : Int) < 1 ∨ 4 < (s.size : Int)) : 0 = pI s ∧ false = pO s := pn_no fun n hn e => by
 have := itoaB_len hn;rw [e] at this;omega
def aN (s : ByteArray) : Int := (Lib.atoi s.data.toList).getD 0
def aE (s : ByteArray) : Bool := (Lib.atoi s.data.toList).isNone
theorem aN_itoa {s : ByteArray} {n : Nat} (e : itoaB (n : Int) = s) : aE s = false ∧ aN s = (n : Int) := by
 have := atoi_itoa n;rw [e] at this;simp [aE, aN, this]
theorem pn_ae {s : ByteArray} (h : aE s = true) : 0 = pI s ∧ false = pO s := pn_no fun n hn e => by rw [(aN_itoa e).1] at h; cases h
theorem pn_rng {s : ByteArray} (h : aN s < 0 ∨ 9999 < aN s) : 0 = pI s ∧ false = pO s := pn_no fun n hn e => by rw [(aN_itoa e).2] at h; omega
theorem pn_ne {s : ByteArray} (h : ¬ itoaB (aN s) = s) : 0 = pI s ∧ false = pO s := pn_no fun n hn e => by rw [(aN_itoa e).2] at h; exact h e
theorem aN_rng (s : ByteArray) (h : s.size ≤ 4) : -99999 ≤ aN s ∧ aN s ≤ 99999 := by
 have key : ∀ (l : List UInt8) (acc n : Nat), Lib.decFrom acc l = some n → n < (acc + 1) * 10 ^ l.length := by
  intro l
  induction l with
  | nil => intro acc n h; simp only [Lib.decFrom, Option.some.injEq] at h; subst h; simp
  | cons b l ih =>
   intro acc n h;simp only [Lib.decFrom] at h
   split at h
   ·rename_i d hd;have h2 := ih _ _ h;have hd9 : d ≤ 9 := by
     unfold Lib.digitVal at hd
     split at hd
     ·simp only [Option.some.injEq] at hd; omega
     ·cases hd
    rw [List.length_cons, Nat.pow_succ]
    calc n < (acc * 10 + d + 1) * 10 ^ l.length := h2
     _ ≤ ((acc + 1) * 10) * 10 ^ l.length := Nat.mul_le_mul_right _ (by omega)
     _ = (acc + 1) * (10 ^ l.length * 10) := by rw [Nat.mul_assoc, Nat.mul_comm 10]
   ·cases h
 have hb : ∀ (l : List UInt8) (n : Nat), l.length ≤ 4 → Lib.decNat l = some n → n ≤ 9999 := by
  intro l n hl h;unfold Lib.decNat at h
  split at h
  ·cases h
  ·have := key l 0 n h;have : 10 ^ l.length ≤ 10 ^ 4 := Nat.pow_le_pow_right (by omega) hl;omega
 have hl : s.data.toList.length ≤ 4 := by rw [Array.length_toList]; exact h
 unfold aN
 cases e : Lib.atoi s.data.toList with
 | none => simp
 | some n =>
  simp only [Option.getD_some]
  cases hs : s.data.toList with
  | nil => rw [hs] at e; simp [Lib.atoi] at e
  | cons b r =>
   rw [hs] at e hl;rw [List.length_cons] at hl;simp only [Lib.atoi] at e
   split at e
   ·simp only [Option.map_eq_some_iff] at e;obtain ⟨m, hm, rfl⟩ := e;have := hb r m (by omega) hm;omega
   ·split at e
    ·simp only [Option.map_eq_some_iff] at e;obtain ⟨m, hm, rfl⟩ := e;have := hb r m (by omega) hm;omega
    ·simp only [Option.map_eq_some_iff] at e;obtain ⟨m, hm, rfl⟩ := e;have := hb (b :: r) m (by simpa using hl) hm;omega
def dvT (s : ByteArray) (k : Nat) (n : Int) : Prop := 0 ≤ n ∧ n < (10 ^ k : Nat) ∧ Lib.decFrom 0 (s.data.toList.take k) = some n.toNat
theorem dvT_zero (s : ByteArray) : dvT s 0 0 := ⟨by omega, by decide, by simp [Lib.decFrom]⟩
theorem sB_get {s : ByteArray} {k : Nat} (h : k < s.size) : ∃ b, s.data.toList[k]? = some b ∧ sB s k = (b.toNat : Int) := by
 have h2 : k < s.data.size := h;refine ⟨s.data[k], by simp [h2], ?_⟩;unfold sB;rw [Array.getElem?_eq_getElem h2];rfl
theorem dvT_step {s : ByteArray} {k : Nat} {n : Int} (h : dvT s k n) (hk : k < s.size) (h1 : ¬ sB s k < 48) (h2 : ¬ 57 < sB s k) : dvT s (k + 1) (10 * n + (sB s k - 48)) := by
 obtain ⟨a, b, c⟩ := h;obtain ⟨u, hu, hb⟩ := sB_get hk;have hd : Lib.digitVal u = some (u.toNat - 48) := by unfold Lib.digitVal; rw [if_pos (by omega)]
 refine ⟨by omega, ?_, ?_⟩
 ·rw [Nat.pow_succ]; omega
 ·rw [take_snoc hu, decFrom_snoc hd c]
  congr 1
  omega
theorem sp_dig {s : ByteArray} {k : Nat} (hk : k < s.size) (h : sB s k < 48 ∨ 57 < sB s k) : 0 = pI s ∧ false = pO s := pn_no fun n hn e => by
 obtain ⟨u, hu, hb⟩ := sB_get hk;have h1 := dec_dig n;rw [← itoaB_list, e] at h1;have := dec_all h1 u (List.mem_of_getElem? hu);unfold Lib.digitVal at this;rw [if_neg (by omega)] at this;exact this rfl
theorem sp_ne {s : ByteArray} {k : Nat} {n : Int} (h : dvT s k n) (hk : s.size ≤ k) (h2 : ¬ itoaB n = s) : 0 = pI s ∧ false = pO s := pn_no fun m hm e => by
 obtain ⟨a, b, c⟩ := h;have hl : s.data.toList.length ≤ k := by rw [Array.length_toList]; exact hk
 rw [List.take_of_length_le hl] at c;have h1 := dec_dig m;rw [← itoaB_list, e, c] at h1;simp only [Option.some.injEq] at h1
 apply h2
 rw [← e]
 congr 1
 omega
theorem dvT_le {s : ByteArray} {k : Nat} {n : Int} (h : dvT s k n) (hk : k ≤ 4) : 0 ≤ n ∧ n ≤ 9999 := by
 obtain ⟨a, b, c⟩ := h;have : 10 ^ k ≤ 10 ^ 4 := Nat.pow_le_pow_right (by omega) hk;omega
def cmZ (a b : Int) : Int := if a < b then -1 else if b < a then 1 else 0
def cmS (a b : ByteArray) : Int := if ltS a b = true then -1 else if ltS b a = true then 1 else 0
theorem cmp_bytes : ∀ a b : List UInt8, Lib.compareBytes a b = if Op.bytesLess a b = true then -1 else if Op.bytesLess b a = true then 1 else 0
 | [], [] => rfl
 | [], _ :: _ => rfl
 | _ :: _, [] => rfl
 | x :: a, y :: b => by
  rw [Lib.compareBytes, cmp_bytes a b];simp only [Op.bytesLess]
  by_cases h1 : x < y
  ·simp [h1]
  ·by_cases h2 : y < x
   ·have e : (x == y) = false := by rw [beq_eq_false_iff_ne]; intro e; subst e; exact h1 h2
    simp [h1, h2, e]
   ·have e : x = y := by
     have h3 : ¬ x.toNat < y.toNat := h1;have h4 : ¬ y.toNat < x.toNat := h2;exact UInt8.toNat_inj.1 (by omega)
    subst e;simp [h1]
theorem cmp_str (a b : ByteArray) : Lib.compareBytes a.data.toList b.data.toList = cmS a b := by
 rw [cmp_bytes];unfold cmS ltS;rw [tl_eq, tl_eq]
theorem cmS_ne {a b : ByteArray} (h : a ≠ b) : cmS a b ≠ 0 := by
 unfold cmS
 split
 ·omega
 ·split
  ·omega
  ·rename_i h1 h2;exact absurd (ltS_tot (by simpa using h1) (by simpa using h2)) h
theorem cmS_gt {a b : ByteArray} (h : ltS a b = false) (h2 : ¬ a = b) : 1 = cmS a b := by
 have h3 : ltS b a = true := by
  cases e : ltS b a with
  | true => rfl
  | false => exact absurd (ltS_tot h e) h2
 unfold cmS;simp [h, h3]
theorem cmS_self (a : ByteArray) : cmS a a = 0 := by unfold cmS; simp [ltS_irrefl]
def cmpA (a b : ByteArray) : Int := if pO a = true ∧ pO b = true then cmZ (pI a) (pI b) else if pO a = true then -1 else if pO b = true then 1 else cmS a b
def cmpL : List ByteArray → List ByteArray → Int
 | [], [] => 0
 | [], _ :: _ => -1
 | _ :: _, [] => 1
 | a :: l, b :: m => if cmpA a b = 0 then cmpL l m else cmpA a b
def cmpF (f g : Fact) : Int := if f.Rel = g.Rel then cmpL f.Args g.Args else cmS f.Rel g.Rel
theorem cmpL_step : ∀ {l m : List ByteArray} {k : Nat} {a b : ByteArray}, (∀ (i : Nat), i < k → ∀ (x y : ByteArray), l[i]? = some x → m[i]? = some y → cmpA x y = 0) → l[k]? = some a → m[k]? = some b → cmpA a b ≠ 0 → cmpA a b = cmpL l m
 | [], _, _, _, _, _, h, _, _ => by simp at h
 | _ :: _, [], _, _, _, _, _, h, _ => by simp at h
 | x :: l, y :: m, 0, a, b, _, h1, h2, h3 => by
  simp only [List.getElem?_cons_zero, Option.some.injEq] at h1 h2;subst h1; subst h2;simp [cmpL, h3]
 | x :: l, y :: m, k + 1, a, b, h, h1, h2, h3 => by
  simp only [List.getElem?_cons_succ] at h1 h2;rw [cmpL, if_pos (h 0 (by omega) x y rfl rfl)];exact cmpL_step (fun i hi x y hx hy => h (i + 1) (by omega) x y (by simpa using hx) (by simpa using hy)) h1 h2 h3
theorem cmpL_end : ∀ {l m : List ByteArray}, (∀ (i : Nat) (x y : ByteArray), l[i]? = some x → m[i]? = some y → cmpA x y = 0) → cmZ (l.length : Int) (m.length : Int) = cmpL l m
 | [], [], _ => by simp [cmZ, cmpL]
 | [], _ :: _, _ => by simp [cmZ, cmpL] <;> omega
 | _ :: _, [], _ => by simp [cmZ, cmpL] <;> omega
 | x :: l, y :: m, h => by
  rw [cmpL, if_pos (h 0 x y rfl rfl), ← cmpL_end (fun i a b ha hb => h (i + 1) a b (by simpa using ha) (by simpa using hb))];unfold cmZ;simp only [List.length_cons]
  split <;> split <;> (try split) <;> (try split) <;> omega
theorem cmS_eq {a b : ByteArray} (h : cmS a b = 0) : a = b := Classical.byContradiction fun e => cmS_ne e h
theorem cmpF_rel {f g : Fact} (h : ¬ cmS f.Rel g.Rel = 0) : cmS f.Rel g.Rel = cmpF f g := by
 unfold cmpF;rw [if_neg (fun e => h (by rw [e]; exact cmS_self _))]
theorem cmpF_ne {f g : Fact} (h : ¬ f.Rel = g.Rel) : cmS f.Rel g.Rel = cmpF f g := by
 unfold cmpF;rw [if_neg h]
theorem cmpF_arg {f g : Fact} {k : Nat} {a b : ByteArray} (he : f.Rel = g.Rel) (h : ∀ (i : Nat), i < k → ∀ (x y : ByteArray), f.Args[i]? = some x → g.Args[i]? = some y → cmpA x y = 0) (ha : f.Args[k]? = some a) (hb : g.Args[k]? = some b) (hn : ¬ cmpA a b = 0) : cmpA a b = cmpF f g := by
 unfold cmpF;rw [if_pos he];exact cmpL_step h ha hb hn
theorem cmpF_end {f g : Fact} (he : f.Rel = g.Rel) (h : ∀ (i : Nat) (x y : ByteArray), f.Args[i]? = some x → g.Args[i]? = some y → cmpA x y = 0) : cmZ (f.Args.length : Int) (g.Args.length : Int) = cmpF f g := by
 unfold cmpF;rw [if_pos he];exact cmpL_end h
end Go.Sy
namespace Go.Sy
open Go Go.RowKit
structure ISet where
  l : List Int
def ISet.has (s : ISet) (z : Int) : Bool := s.l.contains z
def ISet.add (s : ISet) (z : Int) : ISet := ⟨s.l ++ [z]⟩
def entB (l : List Int) : List (Value × Value) := l.map (fun x => (Value.int .i64 x, Value.bool true))
def owMap (w : World) (cs : List Value) (x : ISet) (fp : List Nat) : Prop :=
 ∃ (g : Nat) (es : Array MapEntry) (clock : Nat), cs = [.map (some g)] ∧ fp = [g] ∧ w.heap[g]? = some (.map es clock) ∧ es.toList.map (fun e => (e.key, e.val)) = entB x.l
instance instISet : Gd ISet where
 n := 1
 st := false
 rd := fun _ cs _ => ∃ g, cs = [.map (some g)]
 ow := owMap
 rd_len := fun h => by obtain ⟨g, e⟩ := h; rw [e]; rfl
 rd_one := fun h u hu => by obtain ⟨g, e⟩ := h; rw [e] at hu; simp only [List.mem_singleton] at hu; rw [hu]; rfl
 rd_sub := fun _ h => h
 ow_loc := fun h hs => by
  obtain ⟨g, es, c, h1, h2, h3, h4⟩ := h;exact ⟨g, es, c, h1, h2, by rw [hs g (by rw [h2]; simp)]; exact h3, h4⟩
 ow_lt := fun h k hk => by
  obtain ⟨g, es, c, h1, h2, h3, h4⟩ := h;rw [h2] at hk;simp only [List.mem_singleton] at hk;rw [hk]
  rcases Nat.lt_or_ge g (_ : World).heap.size with hh | hh
  ·exact hh
  ·rw [Array.getElem?_eq_none hh] at h3; cases h3
 ow_rd := fun h => by obtain ⟨g, _, _, h1, _⟩ := h; exact ⟨g, h1⟩
section
variable {P : Program} {N : Nat} {w0 : World} {H : List Chunk} {L : Fm} {Q : Exit → Act → World → Prop} {o : Oper} {d : Nat} {K : Act → World → Prop}
end
end Go.Sy
namespace Go.Sy
open Go
end Go.Sy
