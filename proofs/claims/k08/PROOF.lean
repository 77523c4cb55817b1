import PyProof.Rows.All
import Wide.All
import OpenK.AllK
import Wide.FinOn
import PySem.Challenge.RW_rootcourt_k08_whole_ring_laws
import HandS.ForMost
import HandS.Wide
import HandS.WideBits
import HandS.Walk
import KE.GoesMore
set_option Elab.async false
set_option linter.all false
set_option maxRecDepth 100000
set_option maxHeartbeats 8000000
namespace K08

/-- the weight of a power -/
def co (l : List Int) (k : Nat) : Int := l.getD k 0

theorem co_nil (k : Nat) : co [] k = 0 := rfl
theorem co_cons_zero (a : Int) (l : List Int) : co (a :: l) 0 = a := rfl
theorem co_cons_succ (a : Int) (l : List Int) (k : Nat) : co (a :: l) (k + 1) = co l k := rfl
theorem co_big {l : List Int} {k : Nat} (h : l.length ≤ k) : co l k = 0 := by
  unfold co
  rw [List.getD_eq_getElem?_getD, List.getElem?_eq_none h]
  rfl
theorem co_get {l : List Int} {k : Nat} {x : Int} (h : l[k]? = some x) : co l k = x := by
  unfold co
  rw [List.getD_eq_getElem?_getD, h]
  rfl
theorem co_some {l : List Int} {k : Nat} (h : k < l.length) : l[k]? = some (co l k) := by
  unfold co
  rw [List.getD_eq_getElem?_getD, List.getElem?_eq_getElem h]
  rfl

/-- without the noughts at the end -/
def trim : List Int → List Int
  | [] => []
  | a :: l => if a = 0 ∧ trim l = [] then [] else a :: trim l

theorem co_trim : ∀ (l : List Int) (k : Nat), co (trim l) k = co l k
  | [], _ => rfl
  | a :: l, k => by
    unfold trim
    split
    · rename_i h
      cases k with
      | zero => rw [co_cons_zero, co_nil, h.1]
      | succ k => rw [co_cons_succ, ← co_trim l k, h.2, co_nil, co_nil]
    · cases k with
      | zero => rfl
      | succ k => rw [co_cons_succ, co_cons_succ, co_trim l k]

theorem trim_zero : ∀ {l : List Int}, (∀ k, co l k = 0) → trim l = []
  | [], _ => rfl
  | a :: l, h => by
    have h0 : a = 0 := h 0
    have h1 : trim l = [] := trim_zero fun k => h (k + 1)
    unfold trim
    rw [if_pos ⟨h0, h1⟩]

theorem trim_nil_of {l : List Int} (h : trim l = []) (k : Nat) : co l k = 0 := by
  rw [← co_trim, h]
  rfl

theorem trim_congr : ∀ {p q : List Int}, (∀ k, co p k = co q k) → trim p = trim q
  | [], q, h => (trim_zero fun k => (h k).symm).symm
  | a :: p, [], h => trim_zero h
  | a :: p, b :: q, h => by
    have h0 : a = b := h 0
    have h1 : trim p = trim q := trim_congr fun k => h (k + 1)
    unfold trim
    rw [h0, h1]

theorem trim_trim (l : List Int) : trim (trim l) = trim l := trim_congr (co_trim l)

/-- a polynomial: no nought at its end -/
def Pol (l : List Int) : Prop := trim l = l
theorem pol_trim (l : List Int) : Pol (trim l) := trim_trim l
theorem pol_ext {p q : List Int} (hp : Pol p) (hq : Pol q) (h : ∀ k, co p k = co q k) : p = q := by
  rw [← hp, ← hq]
  exact trim_congr h

theorem trim_len : ∀ (l : List Int), (trim l).length ≤ l.length
  | [] => Nat.le_refl _
  | a :: l => by
    unfold trim
    have := trim_len l
    split
    · exact Nat.zero_le _
    · show (trim l).length + 1 ≤ l.length + 1
      omega

/-- a list whose last weight isn't nought -/
theorem pol_last : ∀ {l : List Int}, (l = [] ∨ co l (l.length - 1) ≠ 0) → Pol l
  | [], _ => rfl
  | [a], h => by
    have ha : a ≠ 0 := by
      rcases h with h | h
      · cases h
      · exact h
    show trim [a] = [a]
    unfold trim
    rw [if_neg (fun z => ha z.1)]
    rfl
  | a :: b :: l, h => by
    have hb : Pol (b :: l) := by
      refine pol_last (.inr ?_)
      rcases h with h | h
      · cases h
      · exact h
    show trim (a :: b :: l) = a :: b :: l
    have e : trim (b :: l) = b :: l := hb
    unfold trim
    rw [e, if_neg (fun z => nomatch z.2)]

theorem last_pol : ∀ {l : List Int}, Pol l → l ≠ [] → co l (l.length - 1) ≠ 0
  | [], _, h => absurd rfl h
  | [a], h, _ => by
    intro (z : a = 0)
    have e : trim [a] = [a] := h
    unfold trim at e
    rw [if_pos ⟨z, rfl⟩] at e
    cases e
  | a :: b :: l, h, _ => by
    have hb : Pol (b :: l) := by
      have e : trim (a :: b :: l) = a :: b :: l := h
      unfold trim at e
      split at e
      · cases e
      · exact (List.cons.inj e).2
    exact last_pol (l := b :: l) hb (List.cons_ne_nil _ _)

/-- where the loop of poly ends -/
theorem trim_take {l : List Int} {m : Nat} (hm : m ≤ l.length) (hz : ∀ k, m ≤ k → co l k = 0) (he : m = 0 ∨ co l (m - 1) ≠ 0) : l.take m = trim l := by
  have hc : ∀ k, co (l.take m) k = co l k := by
    intro k
    by_cases hk : k < m
    · unfold co
      rw [List.getD_eq_getElem?_getD, List.getD_eq_getElem?_getD, List.getElem?_take, if_pos hk]
    · rw [hz k (by omega), co_big]
      rw [List.length_take]
      omega
  have hp : Pol (l.take m) := by
    refine pol_last ?_
    by_cases h0 : m = 0
    · left
      rw [h0]
      rfl
    · right
      have e : (l.take m).length = m := by
        rw [List.length_take]
        omega
      rw [e, hc]
      rcases he with he | he
      · exact absurd he h0
      · exact he
  exact pol_ext hp (pol_trim l) (fun k => (hc k).trans (co_trim l k).symm)

/-- a list made of a function -/
def mk (n : Nat) (f : Nat → Int) : List Int := (List.range n).map f
theorem mk_len (n : Nat) (f : Nat → Int) : (mk n f).length = n := by
  unfold mk
  rw [List.length_map]
  exact List.length_range
theorem co_mk_lt {n k : Nat} {f : Nat → Int} (h : k < n) : co (mk n f) k = f k := by
  refine co_get ?_
  unfold mk
  rw [List.getElem?_map, List.getElem?_range h]
  rfl
theorem co_mk {n : Nat} {f : Nat → Int} (h : ∀ k, n ≤ k → f k = 0) (k : Nat) : co (mk n f) k = f k := by
  by_cases hk : k < n
  · exact co_mk_lt hk
  · rw [h k (by omega), co_big]
    rw [mk_len]
    omega
theorem mk_ext {l : List Int} {n : Nat} {f : Nat → Int} (hl : l.length = n) (h : ∀ k, k < n → co l k = f k) : l = mk n f := by
  apply List.ext_getElem?
  intro k
  by_cases hk : k < n
  · rw [co_some (by omega), co_some (by rw [mk_len]; exact hk), co_mk_lt hk, h k hk]
  · rw [List.getElem?_eq_none (by omega), List.getElem?_eq_none (by rw [mk_len]; omega)]

/-! ### sum, difference, a number of times -/
def padd (p q : List Int) : List Int := trim (mk (max p.length q.length) fun k => co p k + co q k)
def pscale (p : List Int) (c : Int) : List Int := trim (p.map (· * c))
def psub (p q : List Int) : List Int := padd p (pscale q (-1))

theorem co_padd (p q : List Int) (k : Nat) : co (padd p q) k = co p k + co q k := by
  unfold padd
  rw [co_trim, co_mk]
  intro k hk
  rw [co_big (l := p) (by omega), co_big (l := q) (by omega)]
  rfl
theorem co_map_mul (c : Int) : ∀ (p : List Int) (k : Nat), co (p.map (· * c)) k = co p k * c
  | [], k => by
    show co [] k = co [] k * c
    rw [co_nil, Int.zero_mul]
  | a :: p, 0 => rfl
  | a :: p, k + 1 => co_map_mul c p k
theorem co_pscale (p : List Int) (c : Int) (k : Nat) : co (pscale p c) k = co p k * c := by
  unfold pscale
  rw [co_trim, co_map_mul]
theorem co_psub (p q : List Int) (k : Nat) : co (psub p q) k = co p k - co q k := by
  unfold psub
  rw [co_padd, co_pscale]
  omega
theorem pol_padd (p q : List Int) : Pol (padd p q) := pol_trim _
theorem pol_pscale (p : List Int) (c : Int) : Pol (pscale p c) := pol_trim _
theorem pol_psub (p q : List Int) : Pol (psub p q) := pol_padd _ _
theorem pol_nil : Pol [] := rfl
theorem len_padd (p q : List Int) : (padd p q).length ≤ max p.length q.length := by
  have := trim_len (mk (max p.length q.length) fun k => co p k + co q k)
  rw [mk_len] at this
  exact this
theorem len_pscale (p : List Int) (c : Int) : (pscale p c).length ≤ p.length := by
  have := trim_len (p.map (· * c))
  rw [List.length_map] at this
  exact this
theorem len_psub (p q : List Int) : (psub p q).length ≤ max p.length q.length := by
  have h1 := len_padd p (pscale q (-1))
  have h2 := len_pscale q (-1)
  unfold psub
  omega

theorem padd_comm (p q : List Int) : padd p q = padd q p :=
  pol_ext (pol_padd _ _) (pol_padd _ _) fun k => by
    rw [co_padd, co_padd]
    omega
theorem padd_assoc (p q r : List Int) : padd (padd p q) r = padd p (padd q r) :=
  pol_ext (pol_padd _ _) (pol_padd _ _) fun k => by
    rw [co_padd, co_padd, co_padd, co_padd]
    omega
theorem psub_padd {p q : List Int} (hp : Pol p) : padd (psub p q) q = p :=
  pol_ext (pol_padd _ _) hp fun k => by
    rw [co_padd, co_psub]
    omega
theorem psub_self (p : List Int) : psub p p = [] :=
  pol_ext (pol_psub _ _) pol_nil fun k => by
    rw [co_psub, co_nil]
    omega
theorem padd_neg (p : List Int) : padd p (pscale p (-1)) = [] := psub_self p

/-! ### product -/
/-- the weights of the product of a list and what has the weights q -/
def mc : List Int → (Nat → Int) → Nat → Int
  | [], _, _ => 0
  | a :: p, q, 0 => a * q 0
  | a :: p, q, n + 1 => a * q (n + 1) + mc p q n

theorem mc_congr {q r : Nat → Int} (h : ∀ k, q k = r k) (p : List Int) (n : Nat) : mc p q n = mc p r n := by
  have e : q = r := funext h
  rw [e]

theorem mc_zero : ∀ (p : List Int) (n : Nat), mc p (fun _ => 0) n = 0
  | [], _ => rfl
  | a :: p, 0 => Int.mul_zero a
  | a :: p, n + 1 => by
    show a * 0 + mc p (fun _ => 0) n = 0
    rw [mc_zero p n, Int.mul_zero]
    rfl

theorem mc_add (q r : Nat → Int) : ∀ (p : List Int) (n : Nat), mc p (fun k => q k + r k) n = mc p q n + mc p r n
  | [], _ => rfl
  | a :: p, 0 => Int.mul_add a _ _
  | a :: p, n + 1 => by
    show a * (q (n + 1) + r (n + 1)) + mc p (fun k => q k + r k) n = (a * q (n + 1) + mc p q n) + (a * r (n + 1) + mc p r n)
    rw [mc_add q r p n, Int.mul_add]
    omega

theorem mc_smul (c : Int) (q : Nat → Int) : ∀ (p : List Int) (n : Nat), mc p (fun k => c * q k) n = c * mc p q n
  | [], _ => (Int.mul_zero c).symm
  | a :: p, 0 => Int.mul_left_comm a c (q 0)
  | a :: p, n + 1 => by
    show a * (c * q (n + 1)) + mc p (fun k => c * q k) n = c * (a * q (n + 1) + mc p q n)
    rw [mc_smul c q p n, Int.mul_add, Int.mul_left_comm]

/-- one power further -/
def sh (q : Nat → Int) : Nat → Int
  | 0 => 0
  | n + 1 => q n

theorem mc_sh (q : Nat → Int) : ∀ (p : List Int) (n : Nat), mc p (sh q) n = sh (mc p q) n
  | [], 0 => rfl
  | [], n + 1 => rfl
  | a :: p, 0 => Int.mul_zero a
  | a :: p, 1 => by
    show a * q 0 + mc p (sh q) 0 = a * q 0
    rw [mc_sh q p 0]
    show a * q 0 + 0 = a * q 0
    omega
  | a :: p, n + 2 => by
    show a * q (n + 1) + mc p (sh q) (n + 1) = a * q (n + 1) + mc p q n
    rw [mc_sh q p (n + 1)]
    rfl

theorem mc_cons (a : Int) (p : List Int) (q : Nat → Int) (n : Nat) : mc (a :: p) q n = a * q n + sh (mc p q) n := by
  cases n with
  | zero =>
    show a * q 0 = a * q 0 + 0
    omega
  | succ n => rfl

theorem co_cons (a : Int) (l : List Int) (n : Nat) : co (a :: l) n = (if n = 0 then a else 0) + sh (co l) n := by
  cases n with
  | zero =>
    show a = a + 0
    omega
  | succ n =>
    show co l n = (if n + 1 = 0 then a else 0) + co l n
    rw [if_neg (by omega)]
    omega

/-- times a constant -/
theorem mc_const (b : Int) : ∀ (p : List Int) (n : Nat), mc p (fun k => if k = 0 then b else 0) n = b * co p n
  | [], n => by
    show 0 = b * co [] n
    rw [co_nil, Int.mul_zero]
  | a :: p, 0 => by
    show a * b = b * a
    rw [Int.mul_comm]
  | a :: p, n + 1 => by
    show a * (if n + 1 = 0 then b else 0) + mc p (fun k => if k = 0 then b else 0) n = b * co p n
    rw [mc_const b p n, if_neg (by omega), Int.mul_zero]
    omega

theorem mc_comm : ∀ (p q : List Int) (n : Nat), mc p (co q) n = mc q (co p) n
  | [], q, n => by
    show 0 = mc q (co []) n
    rw [mc_congr co_nil, mc_zero]
  | a :: p, q, n => by
    rw [mc_cons, mc_congr (co_cons a p) q n, mc_add, mc_const, mc_sh]
    have e : mc p (co q) = mc q (co p) := funext (mc_comm p q)
    rw [e]

/-- the product of lists, its weights by mc -/
def pmul (p q : List Int) : List Int := trim (mk (p.length + q.length) (mc p (co q)))

theorem mc_big : ∀ (p q : List Int) (n : Nat), p.length + q.length ≤ n + 1 → mc p (co q) n = 0
  | [], _, _, _ => rfl
  | a :: p, q, 0, h => by
    show a * co q 0 = 0
    have h' : p.length + 1 + q.length ≤ 0 + 1 := h
    rw [co_big (by omega), Int.mul_zero]
  | a :: p, q, n + 1, h => by
    show a * co q (n + 1) + mc p (co q) n = 0
    have h' : p.length + 1 + q.length ≤ n + 1 + 1 := h
    rw [co_big (by omega), Int.mul_zero, mc_big p q n (by omega)]
    rfl

theorem co_pmul (p q : List Int) (n : Nat) : co (pmul p q) n = mc p (co q) n := by
  unfold pmul
  rw [co_trim, co_mk]
  intro k hk
  exact mc_big p q k (by omega)
theorem pol_pmul (p q : List Int) : Pol (pmul p q) := pol_trim _
theorem len_pmul (p q : List Int) : (pmul p q).length ≤ p.length + q.length := by
  have := trim_len (mk (p.length + q.length) (mc p (co q)))
  rw [mk_len] at this
  exact this

theorem pmul_comm (p q : List Int) : pmul p q = pmul q p :=
  pol_ext (pol_pmul _ _) (pol_pmul _ _) fun k => by
    rw [co_pmul, co_pmul, mc_comm]

theorem pmul_padd (p q r : List Int) : pmul p (padd q r) = padd (pmul p q) (pmul p r) :=
  pol_ext (pol_pmul _ _) (pol_padd _ _) fun k => by
    rw [co_padd, co_pmul, co_pmul, co_pmul, mc_congr (co_padd q r), mc_add]

/-- two lists, one after the other -/
theorem mc_swap (f : Nat → Int) (p : List Int) : ∀ (r : List Int) (n : Nat), mc r (mc p f) n = mc p (mc r f) n
  | [], n => by
    show 0 = mc p (fun k => mc [] f k) n
    exact (mc_zero p n).symm
  | a :: r, n => by
    have e : mc (a :: r) f = fun k => a * f k + sh (mc r f) k := funext fun k => mc_cons a r f k
    have e2 : mc r (mc p f) = mc p (mc r f) := funext (mc_swap f p r)
    rw [mc_cons, e, mc_add, mc_smul, mc_sh, e2]

theorem pmul_assoc (p q r : List Int) : pmul (pmul p q) r = pmul p (pmul q r) :=
  pol_ext (pol_pmul _ _) (pol_pmul _ _) fun k => by
    rw [co_pmul, mc_comm, mc_congr (co_pmul p q), mc_swap, co_pmul, mc_congr (q := co (pmul q r)) (co_pmul q r), mc_congr (q := mc q (co r)) (mc_comm q r)]

theorem pmul_nil (p : List Int) : pmul p [] = [] :=
  pol_ext (pol_pmul _ _) pol_nil fun k => by
    rw [co_pmul, mc_congr co_nil, mc_zero, co_nil]

theorem pmul_one {p : List Int} (hp : Pol p) : pmul p [1] = p :=
  pol_ext (pol_pmul _ _) hp fun k => by
    rw [co_pmul, mc_congr (q := co [1]) (r := fun k => if k = 0 then 1 else 0), mc_const, Int.one_mul]
    intro k
    cases k with
    | zero => rfl
    | succ k => rfl

theorem mc_lead : ∀ (p q : List Int) (n : Nat), p ≠ [] → q ≠ [] → n + 2 = p.length + q.length → mc p (co q) n = co p (p.length - 1) * co q (q.length - 1)
  | [], _, _, h, _, _ => absurd rfl h
  | [a], q, n, _, hq, h => by
    have h' : n + 2 = 1 + q.length := h
    rw [mc_cons, show q.length - 1 = n by omega]
    have e : sh (mc [] (co q)) n = 0 := by
      cases n with
      | zero => rfl
      | succ n => rfl
    rw [e]
    show a * co q n + 0 = a * co q n
    omega
  | a :: b :: p, q, n, _, hq, h => by
    have h' : n + 2 = (b :: p).length + 1 + q.length := h
    have hl : 0 < q.length := List.length_pos_iff.mpr hq
    cases n with
    | zero =>
      have : (b :: p).length = p.length + 1 := rfl
      omega
    | succ n =>
      have e := mc_lead (b :: p) q n (List.cons_ne_nil _ _) hq (by omega)
      have : (b :: p).length = p.length + 1 := rfl
      show a * co q (n + 1) + mc (b :: p) (co q) n = _
      rw [e, co_big (l := q) (k := n + 1) (by omega), Int.mul_zero, Int.zero_add]
      rfl

theorem pmul_len {p q : List Int} (hp : Pol p) (hq : Pol q) (p0 : p ≠ []) (q0 : q ≠ []) : (pmul p q).length + 1 = p.length + q.length := by
  have hl1 : 0 < p.length := List.length_pos_iff.mpr p0
  have hl2 : 0 < q.length := List.length_pos_iff.mpr q0
  have hm := mk_len (p.length + q.length) (mc p (co q))
  have e : (mk (p.length + q.length) (mc p (co q))).take (p.length + q.length - 1) = trim (mk (p.length + q.length) (mc p (co q))) := by
    refine trim_take (by rw [hm]; omega) ?_ (.inr ?_)
    · intro k hk
      by_cases hk2 : k < p.length + q.length
      · rw [co_mk_lt hk2, mc_big p q k (by omega)]
      · exact co_big (by rw [hm]; omega)
    · rw [co_mk_lt (by omega), mc_lead p q _ p0 q0 (by omega)]
      exact Int.mul_ne_zero (last_pol hp p0) (last_pol hq q0)
  show (trim _).length + 1 = _
  rw [← e, List.length_take, hm]
  omega

/-! ### powers -/
def ppow (p : List Int) : Nat → List Int
  | 0 => [1]
  | n + 1 => pmul (ppow p n) p
theorem pol_ppow (p : List Int) : ∀ n, Pol (ppow p n)
  | 0 => rfl
  | n + 1 => pol_pmul _ _
theorem ppow_add (p : List Int) (m : Nat) : ∀ n, pmul (ppow p m) (ppow p n) = ppow p (m + n)
  | 0 => pmul_one (pol_ppow p m)
  | n + 1 => by
    show pmul (ppow p m) (pmul (ppow p n) p) = pmul (ppow p (m + n)) p
    rw [← pmul_assoc, ppow_add p m n]
theorem len_ppow (p : List Int) : ∀ n, (ppow p n).length ≤ 1 + n * p.length
  | 0 => by
    show 1 ≤ 1 + 0 * p.length
    omega
  | n + 1 => by
    have h1 := len_pmul (ppow p n) p
    have h2 := len_ppow p n
    rw [Nat.add_mul, Nat.one_mul]
    show (pmul (ppow p n) p).length ≤ _
    omega

/-! ### how great the weights are -/
def Bd (p : List Int) (A : Nat) : Prop := ∀ k, (co p k).natAbs < 2 ^ A
theorem Bd.mono {p : List Int} {A B : Nat} (h : Bd p A) (hb : A ≤ B) : Bd p B := fun k => Nat.lt_of_lt_of_le (h k) (Nat.pow_le_pow_right (by decide) hb)
theorem bd_padd {p q : List Int} {A : Nat} (hp : Bd p A) (hq : Bd q A) : Bd (padd p q) (A + 1) := fun k => by
  rw [co_padd, Nat.pow_succ]
  have h1 := hp k
  have h2 := hq k
  omega
theorem bd_pscale {p : List Int} {A : Nat} (hp : Bd p A) : Bd (pscale p (-1)) A := fun k => by
  rw [co_pscale]
  have h1 := hp k
  omega
theorem bd_psub {p q : List Int} {A : Nat} (hp : Bd p A) (hq : Bd q A) : Bd (psub p q) (A + 1) := bd_padd hp (bd_pscale hq)
theorem mul_bd {x y : Int} {A B : Nat} (hx : x.natAbs < 2 ^ A) (hy : y.natAbs < 2 ^ B) : (x * y).natAbs < 2 ^ (A + B) := by
  rw [Int.natAbs_mul x y, Nat.pow_add 2 A B]
  exact Nat.mul_lt_mul'' hx hy
theorem mc_bd {q : Nat → Int} {A B : Nat} (hq : ∀ k, (q k).natAbs < 2 ^ B) : ∀ (p : List Int), Bd p A → ∀ n, (mc p q n).natAbs < 2 ^ (A + B + p.length)
  | [], _, _ => Nat.two_pow_pos _
  | a :: p, hp, n => by
    have hp' : Bd p A := fun k => hp (k + 1)
    have h0 : a.natAbs < 2 ^ A := hp 0
    have h1 := mul_bd h0 (hq n)
    have h2 : (sh (mc p q) n).natAbs < 2 ^ (A + B + p.length) := by
      cases n with
      | zero => exact Nat.two_pow_pos _
      | succ n => exact mc_bd hq p hp' n
    have h3 : 2 ^ (A + B) ≤ 2 ^ (A + B + p.length) := Nat.pow_le_pow_right (by decide) (by omega)
    rw [mc_cons]
    show _ < 2 ^ (A + B + (p.length + 1))
    rw [← Nat.add_assoc, Nat.pow_succ]
    omega
theorem bd_pmul {p q : List Int} {A B : Nat} (hp : Bd p A) (hq : Bd q B) : Bd (pmul p q) (A + B + p.length) := fun k => by
  rw [co_pmul]
  exact mc_bd hq p hp k
theorem bd_one : Bd [1] 1
  | 0 => by decide
  | k + 1 => by
    rw [co_cons_succ, co_nil]
    decide
/-- the powers of one of at most seven weights -/
theorem bd_ppow {p : List Int} {A : Nat} (hp : Bd p A) (hl : p.length ≤ 7) : ∀ n, n ≤ 6 → Bd (ppow p n) (1 + n * (A + 43))
  | 0, _ => by
    rw [Nat.zero_mul]
    exact bd_one
  | n + 1, h => by
    have h1 := bd_ppow hp hl n (by omega)
    have h2 := len_ppow p n
    have h4 : n * p.length ≤ 6 * 7 := Nat.mul_le_mul (by omega) hl
    refine (bd_pmul h1 hp).mono ?_
    rw [Nat.add_mul]
    omega

/-! ### the loops of the product -/
theorem mc_snoc (a : Int) (q : Nat → Int) : ∀ (p : List Int) (n : Nat), mc (p ++ [a]) q n = mc p q n + (if p.length ≤ n then a * q (n - p.length) else 0)
  | [], n => by
    show mc [a] q n = 0 + (if 0 ≤ n then a * q (n - 0) else 0)
    rw [if_pos (Nat.zero_le n), mc_cons]
    have e : sh (mc [] q) n = 0 := by
      cases n with
      | zero => rfl
      | succ n => rfl
    rw [e, Nat.sub_zero]
    omega
  | b :: p, 0 => by
    show b * q 0 = b * q 0 + (if p.length + 1 ≤ 0 then a * q (0 - (p.length + 1)) else 0)
    rw [if_neg (by omega)]
    omega
  | b :: p, n + 1 => by
    show b * q (n + 1) + mc (p ++ [a]) q n = (b * q (n + 1) + mc p q n) + (if p.length + 1 ≤ n + 1 then a * q (n + 1 - (p.length + 1)) else 0)
    rw [mc_snoc a q p n, Nat.add_sub_add_right]
    by_cases h : p.length ≤ n
    · simp only [if_pos h, if_pos (show p.length + 1 ≤ n + 1 by omega)]
      omega
    · simp only [if_neg h, if_neg (show ¬ p.length + 1 ≤ n + 1 by omega)]
      omega

/-- what stands after k rows and j places of the next one -/
def cell (p q : List Int) (k j n : Nat) : Int := mc (p.take k) (co q) n + (if k ≤ n ∧ n < k + j then co p k * co q (n - k) else 0)
def rows (p q : List Int) (k j : Nat) : List Int := mk (p.length + q.length) (cell p q k j)
theorem rows_len (p q : List Int) (k j : Nat) : (rows p q k j).length = p.length + q.length := mk_len _ _
theorem co_rows {p q : List Int} {k j n : Nat} (h : n < p.length + q.length) : co (rows p q k j) n = cell p q k j n := co_mk_lt h
theorem rows_start (p q : List Int) : List.replicate (p.length + q.length) (0 : Int) = rows p q 0 0 := by
  refine mk_ext (List.length_replicate ..) fun k hk => ?_
  have e : co (List.replicate (p.length + q.length) (0 : Int)) k = 0 := co_get (by rw [List.getElem?_replicate, if_pos hk])
  rw [e]
  unfold cell
  rw [if_neg (by omega)]
  rfl
theorem rows_turn {p q : List Int} {k j : Nat} (hk : k < p.length) (hj : j < q.length) :
    (rows p q k j).set (k + j) (co (rows p q k j) (k + j) + co p k * co q j) = rows p q k (j + 1) := by
  refine mk_ext (by rw [List.length_set, rows_len]) fun n hn => ?_
  by_cases e : n = k + j
  · have h1 : co ((rows p q k j).set (k + j) (co (rows p q k j) (k + j) + co p k * co q j)) n = co (rows p q k j) (k + j) + co p k * co q j := by
      rw [e]
      exact co_get (by rw [List.getElem?_set_self (by rw [rows_len]; omega)])
    rw [h1, co_rows (by omega), e]
    unfold cell
    rw [if_neg (by omega), if_pos (by omega), Nat.add_sub_cancel_left]
    omega
  · have h1 : co ((rows p q k j).set (k + j) (co (rows p q k j) (k + j) + co p k * co q j)) n = co (rows p q k j) n := by
      unfold co
      rw [List.getD_eq_getElem?_getD, List.getElem?_set_ne (by omega), ← List.getD_eq_getElem?_getD]
    rw [h1, co_rows hn]
    unfold cell
    by_cases h : k ≤ n ∧ n < k + j
    · rw [if_pos h, if_pos ⟨h.1, by omega⟩]
    · rw [if_neg h, if_neg (fun z => h ⟨z.1, by omega⟩)]
theorem rows_next {p q : List Int} {k : Nat} (hk : k < p.length) : rows p q k q.length = rows p q (k + 1) 0 := by
  refine mk_ext (rows_len _ _ _ _) fun n hn => ?_
  rw [co_rows hn]
  unfold cell
  have e : p.take (k + 1) = p.take k ++ [co p k] := by
    rw [List.take_add_one, co_some hk]
    rfl
  have el : (p.take k).length = k := by
    rw [List.length_take]
    omega
  rw [e, mc_snoc, el]
  by_cases h : k ≤ n
  · rw [if_pos h, if_neg (show ¬(k + 1 ≤ n ∧ n < k + 1 + 0) by omega)]
    by_cases h2 : n < k + q.length
    · rw [if_pos ⟨h, h2⟩]
      omega
    · rw [if_neg (by omega), co_big (l := q) (by omega), Int.mul_zero]
      omega
  · rw [if_neg (by omega), if_neg h, if_neg (by omega)]
    omega
theorem rows_end (p q : List Int) : trim (rows p q p.length 0) = pmul p q := by
  have e : rows p q p.length 0 = mk (p.length + q.length) (mc p (co q)) := by
    refine mk_ext (rows_len _ _ _ _) fun n hn => ?_
    rw [co_rows hn]
    unfold cell
    rw [if_neg (by omega), List.take_length]
    omega
  rw [e]
  rfl
end K08

/-! what the layer lacked for this law: enumerate of a tuple; small words -/
namespace K08
open PySem PySem.Spec PyProof.Rows L2

/-! ### enumerate(tuple) -/
section
variable {v : Value} {it : Obj} {G : Heap → Prop}
/-- the two cells that enumerate(v) makes: v's iterator, and the enumerate over it -/
abbrev cell1 (h : Heap) (it : Obj) : Heap := h.push it
abbrev cell2 (h : Heap) (it : Obj) : Heap := (cell1 h it).push { cls := .type "enumerate", data := .fields #[.none, .bool false, .ref h.objs.size, rawInt 0, .none, .none] }

set_option maxHeartbeats 4000000 in
/-- what making it does, for whatever v begins -/
theorem meets_enum (B : Begins v it G) : Meets (Builtin.«enumerate.__new__» ⟨[.type "enumerate", v], []⟩)
    (fun _ R s => G s.heap ∧ R (.ok (.ret (.ref (cell1 s.heap it).objs.size))) { s with heap := cell2 s.heap it }) := by
  refine .of_wp fun P w A R s hs => ?_
  rcases s with ⟨hp, gs, dr, tk, os⟩
  rcases hs with ⟨hG, hR⟩
  have isub := sub_enumerate
  have begin_v : ∀ {A' : Around} {E' Q' : Value → Shared → Prop}, Q' (.ref hp.objs.size) ⟨cell1 hp it, gs, dr, tk, os⟩ →
      wpAny (model P w) A' (pyIter v) Q' E' ⟨hp, gs, dr, tk, os⟩ := fun k => B.iter P w _ _ _ _ hG k
  wp_walk using begin_v
  refine wpAny_stack_any (fun frames => wpAny_pure ?_)
  split
  case' h_1 c _ _ _ _ _ => cases hc : c == Value.type "enumerate"
  all_goals
    wp_walk using begin_v
    exact ⟨_, rfl, hR⟩
theorem enum_cell (h : Heap) : IsEnum (cell2 h it) (cell1 h it).objs.size h.objs.size ((0 : Nat) : Int) .none := Heap.get?_push_size (cell1 h it) rfl
theorem iter_cell (h : Heap) (free : it.isFreed = false) : (cell2 h it).get? h.objs.size = some it := Heap.get?_push_of_some _ (Heap.get?_push_size h free)
theorem old_cell {h : Heap} {b : Addr} {u : Obj} (q : h.get? b = some u) : (cell2 h it).get? b = some u := Heap.get?_push_of_some _ (Heap.get?_push_of_some _ q)
theorem call_enum {P : Program} {w : World} {A : Around} {E Q : Value → Shared → Prop} {s : Shared} (B : Begins v it G) (hG : G s.heap)
    (k : Q (.ref (cell1 s.heap it).objs.size) { s with heap := cell2 s.heap it }) : wpAny (model P w) A (call (.type "enumerate") [v]) Q E s :=
  callType_new F.called_enumerate (by decide) (F.typeCall_enumerate_1 v) (F.newCall_enumerate_1 v) (fun u => F.args_object_init_2 u v) F.entry_enumerate_new (meets_enum B)
    ⟨hG, ⟨_, enum_cell s.heap, rfl⟩, k⟩
end

/-- the tuple at a: at each turn a new pair of the turn's number and the item; it ends just behind the last one -/
def Iet (K : PySem.W.Frag) (a : Addr) : It where
  go i H := ∃ (vs : List V) (v : V), SqT K H a vs ∧ vs[i]? = some v
  yld i H u H' := ∃ (T : Addr) (v : V), u = .ref T ∧ H T = none ∧ H' = upd H T (.tup [.int (i : Nat), v]) ∧ ∀ vs, SqT K H a vs → vs[i]? = some v
  stop i H := ∃ vs : List V, SqT K H a vs ∧ vs.length = i
/-- how the two cells stand ahead of turn i -/
structure EnumAt (a e j : Addr) (i : Nat) (h : Heap) : Prop where
  en : ∃ last, IsEnum h e j ((i : Nat) : Int) last
  ti : h.IsTupleIter j a i
  ne : e ≠ j
theorem EnumAt.apart {a e j : Addr} {i : Nat} {h : Heap} {its : Array Value} (S : EnumAt a e j i h) (ht : h.IsTuple a its) : a ≠ e ∧ a ≠ j := by
  obtain ⟨o, g, c, _⟩ := ht
  constructor
  · intro z
    subst z
    obtain ⟨_, g'⟩ := S.en
    cases g.symm.trans g'
    cases (show "enumerate" ≠ "tuple" by decide) (Value.type.inj c)
  · intro z
    subst z
    obtain ⟨o', g', c', _⟩ := S.ti
    cases g.symm.trans g'
    exact absurd (Value.type.inj (c.symm.trans c')) (by decide)
/-- the library's walk of the two cells, where the tuple's items are its -/
theorem EnumAt.walk {P : Program} {w : World} {A : Around} {a e j : Addr} {i : Nat} {h : Heap} {its : Array Value} (hh : A.in1.handled = none) (S : EnumAt a e j i h) (ht : h.IsTuple a its) :
    WalksT P w A e (e :: [j, a]) [e, j] its.size (fun k vals => ∃ t x, its[k]? = some x ∧ vals = #[.int k t, x]) (fun k h => (∃ u, IsEnum h e j k u) ∧ h.IsTupleIter j a k ∧ h.IsTuple a its)
      (fun k T h => (∃ x, IsEnumOut h e j ((k : Int) + 1) x T) ∧ (h.IsTupleIter j a (k + 1) ∧ h.IsTuple a its) ∧ T ≠ e ∧ T ≠ j) :=
  WalksT.enumerateD (Draws.tuple (prog := P) (w := w) (A := A.in1) hh j a (S.apart ht).2 its) e S.ne (by simp [S.ne, (S.apart ht).1.symm]) (by simp)

theorem turn_enumT {P : Program} {w : World} {K : PySem.W.Frag} {elts : List Expr} {kk : Nat} {tpos : Pos} (a e j : Addr) : Turn P w K (.Tuple elts kk tpos) (Iet K a) [e, j] e (EnumAt a e j) where
  mem := List.mem_cons_self
  obj := by
    intro i h S b hb
    rcases List.mem_cons.mp hb with rfl | hb'
    · obtain ⟨_, g⟩ := S.en
      exact ⟨_, g, fun _ z => by cases z⟩
    · obtain rfl := List.mem_singleton.mp hb'
      obtain ⟨o, g, _, d⟩ := S.ti
      exact ⟨o, g, fun _ z => by cases d.symm.trans z⟩
  keep := by
    intro i h h' S k
    obtain ⟨u, g⟩ := S.en
    exact ⟨⟨u, k e (by simp) _ g⟩, S.ti.at fun o => k j (by simp) o, S.ne⟩
  item := by
    rintro X rfl rfl rfl calm i pins s σ H E I fp S ⟨vs, v, hq, hv⟩
    obtain ⟨its, rel, ht, _⟩ := I.tuple hq
    obtain ⟨y, hy, ry⟩ := rel.get hv
    have tup : s.heap.IsTuple a its.toArray := ht
    have W := EnumAt.walk (P := X.prog) (w := X.w) (A := X.A) (I.ok.hd calm) S tup
    have lt : i < its.toArray.size := by
      rw [List.size_toArray]
      exact (List.getElem?_eq_some_iff.mp hy).1
    refine W.item i s _ E lt ⟨S.en, S.ti, tup⟩ fun T vals h1 tk hvals new tupT mid k1 => ⟨_, rfl, W.go elts kk tpos i T { s with heap := h1, toks := tk } _ E mid fun h2 st k2 => ?_⟩
    obtain ⟨n, x, hx, rfl⟩ := hvals
    have ex : x = y := by
      have hx' : its[i]? = some x := by simpa using hx
      exact Option.some.inj (hx'.symm.trans hy)
    subst ex
    obtain ⟨oT, gT, cT, nT, dT⟩ := tupT
    have okT : ObjOk X.prog X.w (upd H T (.tup [.int (i : Nat), v])) h2 T (.tup [.int (i : Nat), v]) :=
      ⟨by show 2 ≤ sizeLine; decide, [.int i n, x], .cons ⟨n, rfl⟩ (.cons ry .nil), oT, k2 T oT (W.apart i T h1 mid) gT, cT, nT, dT⟩
    have I2 := I.turnedNew (t' := tk) (ch := [e, j]) (fun b o hb g => k2 b o hb (k1 b o hb g)) fp new okT
    refine ⟨.ref T, _, I2, rfl, ⟨T, v, rfl, I.hok.fresh new, rfl, fun ws hw => ?_⟩, ⟨st.1, st.2.1, S.ne⟩, fun b hb => ?_⟩
    · rw [I.tuple_inj hw hq]
      exact hv
    · refine (upd_ne fun z => ?_).trans (fp b hb).1
      obtain ⟨o, g, _⟩ : ∃ o, s.heap.get? b = some o ∧ True := by
        rcases List.mem_cons.mp hb with rfl | hb'
        · obtain ⟨_, g⟩ := S.en
          exact ⟨_, g, trivial⟩
        · obtain rfl := List.mem_singleton.mp hb'
          obtain ⟨o, g, _⟩ := S.ti
          exact ⟨o, g, trivial⟩
      exact absurd (Heap.lt_size g) (by rw [z]; exact Nat.not_lt.mpr new)
  done := by
    rintro X rfl rfl rfl calm i pins s σ H E I fp S ⟨vs, hq, hl⟩
    obtain ⟨its, rel, ht, _⟩ := I.tuple hq
    have tup : s.heap.IsTuple a its.toArray := ht
    have size : its.toArray.size = i := by
      rw [List.size_toArray, ← rel.length]
      exact hl
    subst size
    exact (EnumAt.walk (P := X.prog) (w := X.w) (A := X.A) (I.ok.hd calm) S tup).done s _ E ⟨S.en, S.ti, tup⟩ fun h1 tk k1 => ⟨rfl, I.turnedL k1 fp⟩
  self := by
    intro A i s Q E S q
    obtain ⟨_, g⟩ := S.en
    exact wpAny_pyIter_enum g q

/-- what enumerate's one argument asks -/
def iEnT (K : PySem.W.Frag) (ta : TA) : TI := fun σ H R => ta σ H fun us H1 => ∃ (a : Addr) (vs : List V), us = [.ref a] ∧ SqT K H1 a vs ∧ R (Iet K a) H1
theorem pi_enumT {X : Cx} {e : Expr} {ta : TA} {p pos tpos : Pos} {elts : List Expr} {kk : Nat} (glob : Gl X "enumerate") (own : X.mg "enumerate" = none) (arg : PA X [e] ta)
    (star : starEach [e] X.env = [(false, eval e X.env)] := by rfl) : PI X (.Tuple elts kk tpos) (.Call (.Name "enumerate" p) [e] [] pos) (iEnT X.K ta) := by
  constructor
  intro pins s σ H R I h
  refine Call_ (ld_blt I glob own boot_enumerate ?_)
  refine PyProof.Rows.callWith_type1 (thn (arg.run pos pins s σ H _ I h) ?_) star rfl
  rintro us s1 ⟨_, H1, I1, rel, a, vs, rfl, hq, go⟩
  match us, rel with
  | [_], .cons rfl .nil =>
    obtain ⟨its, _, ht, _⟩ := I1.tuple hq
    have tup : s1.heap.IsTuple a its.toArray := ht
    refine call_enum (begins_tuple a its.toArray) tup (wpAny_pyIter_enum (enum_cell s1.heap) ?_)
    have szs : (cell1 s1.heap { cls := .type "tuple_iterator", data := .fields #[.ref a, .int 0 0] }).objs.size = s1.heap.objs.size + 1 := Heap.size_push _ _
    have two : ∀ b ∈ [(cell1 s1.heap { cls := .type "tuple_iterator", data := .fields #[.ref a, .int 0 0] }).objs.size, s1.heap.objs.size], s1.heap.objs.size ≤ b := by
      rw [szs]
      simp
    exact ⟨_, _, _, _, H1, rfl, I1.kept (t' := s1.toks) fun b o g => old_cell g, turn_enumT a _ _, ⟨⟨_, enum_cell s1.heap⟩, ⟨_, iter_cell s1.heap rfl, rfl, rfl⟩, by rw [szs]; exact Nat.succ_ne_self _⟩,
      fun b hb => I1.fpOk (two b hb) (I1.hok.fresh (two b hb)), go⟩
/-- its turns, for a for over it -/
theorem walk_enumT {K : PySem.W.Frag} {a : Addr} {vs : List V} : Walk (Iet K a) vs.length (fun H => SqT K H a vs) (YPair (fun i => some (.int (i : Nat))) (fun i => vs[i]?)) where
  goes i _ hi q := ⟨vs, vs[i], q, List.getElem?_eq_getElem hi⟩
  stops _ q := ⟨vs, q, rfl⟩
  yields := by
    rintro i H u H' hi q ⟨T, v, rfl, new, rfl, at_i⟩
    exact ⟨T, _, v, rfl, new, rfl, rfl, at_i vs q⟩

/-! ### a def that may be called by its name -/
structure Cb (P : Program) (w : World) (K : PySem.W.Frag) (mg : Str → Option Value) (base : Heap) (k : Nat) (x : Str) (sp : Sp) : Prop where
  ex : ∃ (f : Addr) (fd : FuncData) (ps : List Str), FnOk P w K mg base CX0 k f fd ps sp ∧ mg x = some (.ref f) ∧ PySem.W.keepIn K (.ref f) = true ∧ Binds K fd ps []
theorem pe_cb {X : Cx} {k j : Nat} {x : Str} {sp : Sp} {p pos : Pos} {e : Expr} {es : List Expr} {t : TA}
    (c : Cb X.prog X.w X.K X.mg X.base k x sp) (hr : Room j X.A) (hk : k ≤ j) (hg : Gl X x) (ha : PA X (e :: es) t)
    (hd : (x == ("__debug__" : Str)) = false := by decide)
    (hs : starEach (e :: es) X.env = (false, eval e X.env) :: starEach es X.env := by rfl)
    (hn : (backTo pos (starEach es X.env)).any (·.1) = false := by rfl) :
    PE X (.Call (.Name x p) (e :: es) [] pos) (tCall sp [] E0 t) :=
  have ⟨_, _, _, F, at_x, kept, binds⟩ := c.ex
  pe_call F (hr.mono hk) hg at_x kept binds .nil pass0 ha hd hs hn

/-! ### heaps -/
theorem same_upd {H : Hp} {p : Addr} {o : HO} (h : H p = none) : Same H (upd H p o) := fun b x e => by
  rw [upd_ne (ne_of_none e h)]
  exact e
theorem seqT {K : PySem.W.Frag} {H H' : Hp} {a : Addr} {xs : List V} (sm : Same H H') : SqT K H a xs → SqT K H' a xs
  | .inl (.inl g) => .inl (.inl (sm a _ g))
  | .inl (.inr ⟨u, g⟩) => .inl (.inr ⟨u, sm a _ g⟩)
  | .inr g => .inr g
theorem sqT_of {K : PySem.W.Frag} {H : Hp} {a : Addr} {xs : List V} (h : H a = some (.tup xs)) : SqT K H a xs := .inl (.inl h)
theorem sqL_of {K : PySem.W.Frag} {H : Hp} {a : Addr} {xs : List V} (h : H a = some (.lst xs)) : SqL K H a xs := .inl (.inl h)

/-! ### tuples of ints compared -/
theorem canLay_ints : ∀ ns : List Int, PyData.canLayAll0 (ns.map PyData.int) = true
  | [] => rfl
  | n :: ns => by
    show (PyData.canLay0 (.int n) && PyData.canLayAll0 (ns.map PyData.int)) = true
    rw [canLay_ints ns]
    rfl
theorem dpAll_ints {K : PySem.W.Frag} {H : Hp} : ∀ ns : List Int, DpAll K H (ns.map V.int) (ns.map PyData.int)
  | [] => .nil
  | n :: ns => .cons (.int n) (dpAll_ints ns)
theorem dp_tup {K : PySem.W.Frag} {H : Hp} {a : Addr} {ns : List Int} (h : SqT K H a (ns.map V.int)) : Dp K H (.ref a) (.tuple (ns.map PyData.int)) := .tup h (dpAll_ints ns)
theorem dp_lst {K : PySem.W.Frag} {H : Hp} {a : Addr} {ns : List Int} (h : SqL K H a (ns.map V.int)) : Dp K H (.ref a) (.list (ns.map PyData.int)) := .lst h (dpAll_ints ns)
theorem depth_ints : ∀ ns : List Int, PyData.depthAll (ns.map PyData.int) = 0
  | [] => rfl
  | n :: ns => by
    show max 0 (PyData.depthAll (ns.map PyData.int)) = 0
    rw [depth_ints ns]
    rfl
theorem shaped_tup (ns : List Int) : SeqAt.shaped (.tuple (ns.map PyData.int)) = true := by
  show (PyData.canLayAll0 (ns.map PyData.int) && decide (PyData.depthAll (ns.map PyData.int) + 1 ≤ 64)) = true
  rw [canLay_ints, depth_ints]
  rfl
theorem shaped_lst (ns : List Int) : SeqAt.shaped (.list (ns.map PyData.int)) = true := by
  show (PyData.canLayAll0 (ns.map PyData.int) && decide (PyData.depthAll (ns.map PyData.int) + 1 ≤ 64)) = true
  rw [canLay_ints, depth_ints]
  rfl
theorem eqvAll_ints : ∀ ns ms : List Int, PyData.eqvAll (ns.map PyData.int) (ms.map PyData.int) = decide (ns = ms)
  | [], [] => rfl
  | [], _ :: _ => rfl
  | _ :: _, [] => rfl
  | n :: ns, m :: ms => by
    show ((n == m) && PyData.eqvAll (ns.map PyData.int) (ms.map PyData.int)) = _
    rw [eqvAll_ints ns ms]
    by_cases h : n = m
    · subst h
      by_cases h2 : ns = ms
      · subst h2
        simp
      · simp [h2]
    · simp [h]
theorem eqv_tup (ns ms : List Int) : PyData.eqv (.tuple (ns.map PyData.int)) (.tuple (ms.map PyData.int)) = decide (ns = ms) := eqvAll_ints ns ms
theorem eqv_lst (ns ms : List Int) : PyData.eqv (.list (ns.map PyData.int)) (.list (ms.map PyData.int)) = decide (ns = ms) := eqvAll_ints ns ms

/-- at a a tuple of the ints ns -/
abbrev Tup (K : PySem.W.Frag) (H : Hp) (a : Addr) (ns : List Int) : Prop := SqT K H a (ns.map V.int)
/-- == and != of tuples of ints -/
theorem eq_tup {X : Cx} (hu : X.A.units + 64 < cLine) : OpR X (compareOp .Eq) (fun x y H Q => ∃ (a b : Addr) (ns ms : List Int), x = .ref a ∧ y = .ref b ∧ Tup X.K H a ns ∧ Tup X.K H b ms ∧ Q (.bl (decide (ns = ms))) H) := by
  rintro pins s σ H _ _ v u Q I rx ry ⟨a, b, ns, ms, rfl, rfl, h1, h2, q⟩
  exact op_eqD hu pins s σ H _ _ v u Q I rx ry ⟨_, _, dp_tup h1, dp_tup h2, shaped_tup _, shaped_tup _, by rw [eqv_tup]; exact q⟩
theorem ne_tup {X : Cx} (hu : X.A.units + 64 < cLine) : OpR X (compareOp .NotEq) (fun x y H Q => ∃ (a b : Addr) (ns ms : List Int), x = .ref a ∧ y = .ref b ∧ Tup X.K H a ns ∧ Tup X.K H b ms ∧ Q (.bl (!decide (ns = ms))) H) := by
  rintro pins s σ H _ _ v u Q I rx ry ⟨a, b, ns, ms, rfl, rfl, h1, h2, q⟩
  exact op_neD hu pins s σ H _ _ v u Q I rx ry ⟨_, _, dp_tup h1, dp_tup h2, shaped_tup _, shaped_tup _, by rw [eqv_tup]; exact q⟩
theorem ne_lst {X : Cx} (hu : X.A.units + 64 < cLine) : OpR X (compareOp .NotEq) (fun x y H Q => ∃ (a b : Addr) (ns ms : List Int), x = .ref a ∧ y = .ref b ∧ SqL X.K H a (ns.map V.int) ∧ SqL X.K H b (ms.map V.int) ∧ Q (.bl (!decide (ns = ms))) H) := by
  rintro pins s σ H _ _ v u Q I rx ry ⟨a, b, ns, ms, rfl, rfl, h1, h2, q⟩
  exact op_neD hu pins s σ H _ _ v u Q I rx ry ⟨_, _, dp_lst h1, dp_lst h2, shaped_lst _, shaped_lst _, by rw [eqv_lst]; exact q⟩
/-- the item at a place -/
theorem at_ints {ns : List Int} {k : Nat} {x : Int} (h : ns[k]? = some x) : atI (ns.map V.int) (k : Int) = some (.int x) := atI_nat (by rw [List.getElem?_map, h]; rfl)
theorem len_ints (ns : List Int) : (ns.map V.int).length = ns.length := List.length_map ..
end K08

namespace K08
open PySem PySem.Spec PyProof.Rows L2
/-! ### the text -/
def topS (i : Nat) : Stmt := PySem.Challenge.pw_rootcourt_k08_whole_ring_laws.main.body.getD i (.Pass ⟨0, 0, 0, 0⟩)
abbrev sPoly : Stmt := topS 1
abbrev sDegree : Stmt := topS 2
abbrev sWeight : Stmt := topS 3
abbrev sPlus : Stmt := topS 4
abbrev sScaled : Stmt := topS 5
abbrev sMinus : Stmt := topS 6
abbrev sTimes : Stmt := topS 7
abbrev sPower : Stmt := topS 8
abbrev sCell : Stmt := topS 10
abbrev sMixed : Stmt := topS 11
abbrev sLWeight : Stmt := topS 12
abbrev sCut : Stmt := topS 13
abbrev sLPoly : Stmt := topS 14
abbrev sLaw : Stmt := topS 15
theorem scPoly : FnScope ["weights", "many"] ["weights"] (defScope sPoly) := ⟨rfl, rfl, rfl, by decide +kernel, rfl, by decide +kernel, by decide +kernel⟩
theorem scDegree : FnScope ["one"] ["one"] (defScope sDegree) := ⟨rfl, rfl, rfl, by decide +kernel, rfl, by decide +kernel, by decide +kernel⟩
theorem scWeight : FnScope ["one", "place"] ["one", "place"] (defScope sWeight) := ⟨rfl, rfl, rfl, by decide +kernel, rfl, by decide +kernel, by decide +kernel⟩
theorem scPlus : FnScope ["one", "other", "many", "k"] ["one", "other"] (defScope sPlus) := ⟨rfl, rfl, rfl, by decide +kernel, rfl, by decide +kernel, by decide +kernel⟩
theorem scScaled : FnScope ["one", "factor", "weight"] ["one", "factor"] (defScope sScaled) := ⟨rfl, rfl, rfl, by decide +kernel, rfl, by decide +kernel, by decide +kernel⟩
theorem scMinus : FnScope ["one", "other"] ["one", "other"] (defScope sMinus) := ⟨rfl, rfl, rfl, by decide +kernel, rfl, by decide +kernel, by decide +kernel⟩
theorem scTimes : FnScope ["one", "other", "found", "k", "weight", "j", "part"] ["one", "other"] (defScope sTimes) := ⟨rfl, rfl, rfl, by decide +kernel, rfl, by decide +kernel, by decide +kernel⟩
theorem scPower : FnScope ["one", "many", "found", "k"] ["one", "many"] (defScope sPower) := ⟨rfl, rfl, rfl, by decide +kernel, rfl, by decide +kernel, by decide +kernel⟩
theorem scCell : FnScope ["_law_script", "_law_k"] ["_law_script", "_law_k"] (defScope sCell) := ⟨rfl, rfl, rfl, by decide +kernel, rfl, by decide +kernel, by decide +kernel⟩
theorem scMixed : FnScope ["_law_cell", "_law_k", "_law_left", "_law_drawn"] ["_law_cell", "_law_k"] (defScope sMixed) := ⟨rfl, rfl, rfl, by decide +kernel, rfl, by decide +kernel, by decide +kernel⟩
theorem scLWeight : FnScope ["_law_cell", "_law_k", "_law_part", "_law_some", "_law_far", "_law_j"] ["_law_cell", "_law_k"] (defScope sLWeight) := ⟨rfl, rfl, rfl, by decide +kernel, rfl, by decide +kernel, by decide +kernel⟩
theorem scCut : FnScope ["_law_weights", "_law_found"] ["_law_weights"] (defScope sCut) := ⟨rfl, rfl, rfl, by decide +kernel, rfl, by decide +kernel, by decide +kernel⟩
theorem scLPoly : FnScope ["_law_cell", "_law_most", "_law_k"] ["_law_cell", "_law_most"] (defScope sLPoly) := ⟨rfl, rfl, rfl, by decide +kernel, rfl, by decide +kernel, by decide +kernel⟩
theorem scLaw : FnScope ["_law_script", "_law_one", "_law_other", "_law_third", "_law_many", "_law_more"] ["_law_script"] (defScope sLaw) := ⟨rfl, rfl, rfl, by decide +kernel, rfl, by decide +kernel, by decide +kernel⟩
end K08

namespace K08
open PySem PySem.Spec PyProof.Rows L2
section
variable {P : Program} {w : World} {base : Heap} {K : PySem.W.Frag} {mg : Str → Option Value}

/-! ### poly -/
def spPoly (K : PySem.W.Frag) : Sp := fun vs H Q _ => ∃ (a : Addr) (ns : List Int), vs = [.ref a] ∧ SqL K H a (ns.map V.int) ∧ ns.length ≤ 1000 ∧ ∀ H' p, Same H H' → Tup K H' p (trim ns) → Q (.ref p) H'
theorem cut_to (ns : List Int) (m : Nat) (h : m ≤ ns.length) : cutV (ns.map V.int) none (some (m : Int)) = (ns.take m).map V.int := by
  unfold cutV
  rw [HT.sIx_none, HT.sIx_nat, List.drop_zero, Nat.sub_zero, len_ints, Nat.min_eq_left h, List.map_take]
theorem cb_poly {f : Addr} {fd : FuncData} (F : Fun K "poly" "poly" sPoly f fd) (g : mg "poly" = some (.ref f)) (ml : mg "len" = none) (mt : mg "tuple" = none) : Cb P w K mg base 1 "poly" (spPoly K) := by
  refine ⟨f, fd, ["weights"], F.ok scPoly (fun vs H Q E h => ?_) (fun cdv A outer s H vs Q E hr h => ?_), g, F.kp, F.binds fun _ _ _ _ _ _ us hl => match us, hl with | [_], _ => rfl⟩
  · obtain ⟨a, ns, rfl, _⟩ := h
    rfl
  · obtain ⟨a, ns, rfl, hS, hlen, q⟩ := h
    refine ⟨_, pss_cons (ps_set (i := 1) scPoly.nd rfl (.inl rfl) (pe_callB call_len_seq (by rfl) ml PySem.boot_len (pa_cons (pv 0) pa_nil)))
      (pss_cons (ps_while PassesOwn.never
          (PW.pt (pw_and (pt_cmpR op_gt (pv 1) pe_int (nomark _)) (pw_and1 (pt_cmpR op_eq (pe_ix ix_list (pv 0) (pe_op op_sub (pv 1) pe_int) (fun _ _ => rfl)) pe_int (nomark _)))))
          (pss_one (ps_set (i := 1) scPoly.nd rfl (.inl rfl) (pe_op op_sub (pv 1) pe_int))))
      (pss_one (ps_ret (pe_callTy call_tuple_of (by rfl) mt PyProof.Rows.boot_tuple (pa_cons (pe_slice sl_list (pv 0) po_none (po_some (pv 1))) pa_nil))))), ?_⟩
    refine ⟨.ref a, rfl, a, ns.map V.int, rfl, .inl hS, ?_⟩
    refine ⟨fun m σ H1 => σ = [some (.ref a), some (.int (m : Nat))] ∧ H1 = H ∧ m ≤ ns.length ∧ ∀ k, m ≤ k → co ns k = 0, ⟨ns.length, ?_, rfl, Nat.le_refl _, fun k hk => co_big hk⟩, fun m σ H1 hW => ?_⟩
    · rw [len_ints]
      rfl
    · obtain ⟨rfl, rfl, hm, hz⟩ := hW
      -- many > 0 and weights[many - 1] == 0
      have fin : (m = 0 ∨ co ns (m - 1) ≠ 0) → ∀ H' p, Same H1 H' → Tup K H' p (ns.take m) → Q (.ref p) H' := fun hend H' p sm hp => q H' p sm (by rw [← trim_take hm hz hend]; exact hp)
      have done : (m = 0 ∨ co ns (m - 1) ≠ 0) → ∀ D : Addr, H1 D = none → ∃ p ys, [V.ref D] = [V.ref p] ∧ ((SqL K (upd H1 D (.lst (cutV (ns.map V.int) none (some (m : Int))))) p ys ∧ ∀ l, upd H1 D (.lst (cutV (ns.map V.int) none (some (m : Int)))) l = none → Q (.ref l) (upd (upd H1 D (.lst (cutV (ns.map V.int) none (some (m : Int))))) l (.tup ys))) ∨ (SqT K (upd H1 D (.lst (cutV (ns.map V.int) none (some (m : Int))))) p ys ∧ Q (.ref p) (upd H1 D (.lst (cutV (ns.map V.int) none (some (m : Int))))))) := fun hend D nD => by
        refine ⟨D, _, rfl, .inl ⟨sqL_of upd_same, fun l nl => fin hend _ l ((same_upd nD).trans (same_upd nl)) (sqT_of ?_)⟩⟩
        rw [upd_same, cut_to ns m hm]
      refine ⟨.int (m : Nat), rfl, _, _, rfl, rfl, _, rfl, ite2 (fun e => ?_) (fun e => ?_)⟩
      · have e0 : 0 < m := by
          have e1 : ((m : Nat) : Int) > 0 := of_decide_eq_true e
          omega
        have em : ((m : Nat) : Int) - 1 = ((m - 1 : Nat) : Int) := by omega
        refine ⟨.ref a, rfl, .int (m : Nat), rfl, _, _, rfl, rfl, a, ns.map V.int, ((m : Nat) : Int) - 1, .int (co ns (m - 1)), rfl, rfl, hS, ?_, rfl, _, rfl, ite2 (fun e2 => ?_) (fun e2 => ?_)⟩
        · rw [em]
          exact at_ints (co_some (by omega))
        · have e3 : co ns (m - 1) = 0 := V.int.inj (of_decide_eq_true e2)
          refine ⟨fun σ' H' => σ' = [some (.ref a), some (.int ((m - 1 : Nat)))] ∧ H' = H1, fun σ' H' hN => ⟨m - 1, by omega, hN.1, hN.2, by omega, fun k hk => ?_⟩, .int (m : Nat), rfl, _, _, rfl, rfl, ?_, rfl⟩
          · by_cases ek : k = m - 1
            · rw [ek]
              exact e3
            · exact hz k (by omega)
          · show [some (V.ref a), some (V.int (((m : Nat) : Int) - 1))] = _
            rw [em]
        · exact ⟨.ref a, rfl, .int (m : Nat), rfl, _, rfl, a, _, rfl, hS, done (.inr fun z => e2 (decide_eq_true (by rw [z])))⟩
      · have e0 : m = 0 := by
          have e1 : ¬ ((m : Nat) : Int) > 0 := fun z => e (decide_eq_true z)
          omega
        refine iteF ?_
        exact ⟨.ref a, rfl, .int (m : Nat), rfl, _, rfl, a, _, rfl, hS, done (.inl e0)⟩

/-! ### degree -/
def spDegree (K : PySem.W.Frag) : Sp := fun vs H Q _ => ∃ (a : Addr) (ns : List Int), vs = [.ref a] ∧ Tup K H a ns ∧ Q (.int ((ns.length : Nat) - 1)) H
theorem cb_degree {f : Addr} {fd : FuncData} (F : Fun K "degree" "degree" sDegree f fd) (g : mg "degree" = some (.ref f)) (ml : mg "len" = none) : Cb P w K mg base 1 "degree" (spDegree K) := by
  refine ⟨f, fd, ["one"], F.ok scDegree (fun vs H Q E h => ?_) (fun cdv A outer s H vs Q E hr h => ?_), g, F.kp, F.binds fun _ _ _ _ _ _ us hl => match us, hl with | [_], _ => rfl⟩
  · obtain ⟨a, ns, rfl, _⟩ := h
    rfl
  · obtain ⟨a, ns, rfl, hS, q⟩ := h
    refine ⟨_, pss_one (ps_ret (pe_op op_sub (pe_callB call_len_seq (by rfl) ml PySem.boot_len (pa_cons (pv 0) pa_nil)) pe_int)), ?_⟩
    rw [← len_ints] at q
    exact ⟨.ref a, rfl, a, ns.map V.int, rfl, .inr hS, _, _, rfl, rfl, q⟩

/-! ### weight_of -/
def spWeight (K : PySem.W.Frag) : Sp := fun vs H Q _ => ∃ (a : Addr) (ns : List Int) (k : Nat), vs = [.ref a, .int k] ∧ Tup K H a ns ∧ Q (.int (co ns k)) H
theorem cb_weight {f : Addr} {fd : FuncData} (F : Fun K "weight_of" "weight_of" sWeight f fd) (g : mg "weight_of" = some (.ref f)) (ml : mg "len" = none) : Cb P w K mg base 1 "weight_of" (spWeight K) := by
  refine ⟨f, fd, ["one", "place"], F.ok scWeight (fun vs H Q E h => ?_) (fun cdv A outer s H vs Q E hr h => ?_), g, F.kp, F.binds fun _ _ _ _ _ _ us hl => match us, hl with | [_, _], _ => rfl⟩
  · obtain ⟨a, ns, k, rfl, _⟩ := h
    rfl
  · obtain ⟨a, ns, k, rfl, hS, q⟩ := h
    refine ⟨_, pss_cons (ps_if (pt_cmpR op_lt (pv 1) (pe_callB call_len_seq (by rfl) ml PySem.boot_len (pa_cons (pv 0) pa_nil)) (nomark _))
      (pss_one (ps_ret (pe_ix ix_tup (pv 0) (pv 1) (fun _ _ => rfl)))) pss_nil) (pss_one (ps_ret pe_int)), ?_⟩
    refine ⟨.int (k : Nat), rfl, .ref a, rfl, a, ns.map V.int, rfl, .inr hS, _, _, rfl, rfl, _, rfl, ite2 (fun e => ?_) (fun e => ?_)⟩
    · have e1 : ((k : Nat) : Int) < (((ns.map V.int).length : Nat) : Int) := of_decide_eq_true e
      rw [len_ints] at e1
      exact ⟨.ref a, rfl, .int (k : Nat), rfl, a, ns.map V.int, _, _, rfl, rfl, hS, at_ints (co_some (by omega)), q⟩
    · have e1 : ¬ ((k : Nat) : Int) < (((ns.map V.int).length : Nat) : Int) := fun z => e (decide_eq_true z)
      rw [len_ints] at e1
      rw [co_big (by omega)] at q
      exact q

/-! ### p_plus -/
def spPlus (K : PySem.W.Frag) : Sp := fun vs H Q _ => ∃ (a b : Addr) (p q : List Int), vs = [.ref a, .ref b] ∧ Tup K H a p ∧ Tup K H b q ∧ p.length ≤ 500 ∧ q.length ≤ 500 ∧ ∀ H' r, Same H H' → Tup K H' r (padd p q) → Q (.ref r) H'
theorem same_put {H H' : Hp} {D : Addr} {o : HO} (sm : Same H H') (nD : H D = none) : Same H (upd H' D o) := fun b z e => by
  rw [upd_ne (ne_of_none e nD)]
  exact sm b z e
theorem mk_snoc (i : Nat) (f : Nat → Int) : mk i f ++ [f i] = mk (i + 1) f := by
  unfold mk
  rw [List.range_succ, List.map_append]
  rfl
theorem cb_plus {f : Addr} {fd : FuncData} (F : Fun K "p_plus" "p_plus" sPlus f fd) (g : mg "p_plus" = some (.ref f)) (ml : mg "len" = none) (mm : mg "max" = none) (mr : mg "range" = none)
    (cP : Cb P w K mg base 1 "poly" (spPoly K)) (cW : Cb P w K mg base 1 "weight_of" (spWeight K)) : Cb P w K mg base 2 "p_plus" (spPlus K) := by
  refine ⟨f, fd, ["one", "other"], F.ok scPlus (fun vs H Q E h => ?_) (fun cdv A outer s H vs Q E hr h => ?_), g, F.kp, F.binds fun _ _ _ _ _ _ us hl => match us, hl with | [_, _], _ => rfl⟩
  · obtain ⟨a, b, p, q, rfl, _⟩ := h
    rfl
  · obtain ⟨a, b, p, q, rfl, hA, hB, hp, hq, k⟩ := h
    refine ⟨_, pss_cons (ps_set (i := 2) scPlus.nd rfl (.inl rfl) (pe_callB (call_max2 rfl) (by rfl) mm PyProof.Rows.boot_max (pa_cons (pe_callB call_len_seq (by rfl) ml PySem.boot_len (pa_cons (pv 0) pa_nil)) (pa_cons (pe_callB call_len_seq (by rfl) ml PySem.boot_len (pa_cons (pv 1) pa_nil)) pa_nil))))
      (pss_one (ps_ret (pe_cb cP hr (Nat.le_refl _) (by rfl) (pa_cons (pe_lc (own := [("k", 3)]) (g := gName 3) (tt := tYes) rfl scPlus.nd (pi_range1 (by rfl) mr (pa_cons (pv 2) pa_nil))
        (blkOk_by (N := ["one", "other", "many", "k"]) (sc := defScope sPlus) (by decide +kernel)) (fun _ _ _ _ _ => pg_name (i := 3) scPlus.nd rfl (Or.inl rfl)) (fun _ _ _ _ _ => pts_nil)
        (fun _ _ _ _ _ => pe_op op_add (pe_cb cW hr (Nat.le_refl _) (by rfl) (pa_cons (pv 0) (pa_cons (pv 3) pa_nil))) (pe_cb cW hr (Nat.le_refl _) (by rfl) (pa_cons (pv 1) (pa_cons (pv 3) pa_nil))))) pa_nil)))), ?_⟩
    refine ⟨.ref a, rfl, a, p.map V.int, rfl, .inr hA, .ref b, rfl, b, q.map V.int, rfl, .inr hB, _, _, rfl, ?_⟩
    have em : (if ((q.map V.int).length : Int) > ((p.map V.int).length : Int) then ((q.map V.int).length : Int) else ((p.map V.int).length : Int)) = ((max p.length q.length : Nat) : Int) := by
      rw [len_ints, len_ints]
      split <;> omega
    rw [em]
    refine ⟨.int (max p.length q.length : Nat), rfl, _, rfl, by omega, by omega, fun D nD => ?_⟩
    refine lc_range (lo := 0) (n := max p.length q.length) (fun i H' => Same H H' ∧ H' D = some (.lst ((mk i fun k => co p k + co q k).map V.int))) ⟨same_upd nD, upd_same⟩ (fun i H' hi hP => ?_) (fun H' hP => ?_)
    · obtain ⟨sm, hD⟩ := hP
      rw [Int.zero_add]
      refine ⟨rfl, .ref a, rfl, .int (i : Nat), rfl, a, p, i, rfl, seqT sm hA, .ref b, rfl, .int (i : Nat), rfl, b, q, i, rfl, seqT sm hB, _, _, rfl, rfl, _, hD, ?_, same_put sm nD, ?_⟩
      · rw [len_ints, mk_len]
        exact small1000 (by omega)
      · rw [upd_same, ← mk_snoc, List.map_append]
        rfl
    · obtain ⟨sm, hD⟩ := hP
      exact ⟨D, _, rfl, sqL_of hD, by rw [mk_len]; omega, fun H'' r sm' ht => k H'' r (sm.trans sm') ht⟩

/-! ### scaled -/
def spScaled (K : PySem.W.Frag) : Sp := fun vs H Q _ => ∃ (a : Addr) (p : List Int), vs = [.ref a, .int (-1)] ∧ Tup K H a p ∧ p.length ≤ 500 ∧ ∀ H' r, Same H H' → Tup K H' r (pscale p (-1)) → Q (.ref r) H'
theorem cb_scaled {f : Addr} {fd : FuncData} (F : Fun K "scaled" "scaled" sScaled f fd) (g : mg "scaled" = some (.ref f))
    (cP : Cb P w K mg base 1 "poly" (spPoly K)) : Cb P w K mg base 2 "scaled" (spScaled K) := by
  refine ⟨f, fd, ["one", "factor"], F.ok scScaled (fun vs H Q E h => ?_) (fun cdv A outer s H vs Q E hr h => ?_), g, F.kp, F.binds fun _ _ _ _ _ _ us hl => match us, hl with | [_, _], _ => rfl⟩
  · obtain ⟨a, p, rfl, _⟩ := h
    rfl
  · obtain ⟨a, p, rfl, hA, hp, k⟩ := h
    refine ⟨_, pss_one (ps_ret (pe_cb cP hr (Nat.le_refl _) (by rfl) (pa_cons (pe_lc (own := [("weight", 2)]) (g := gName 2) (tt := tYes) rfl scScaled.nd (pi_tup (pv 0))
        (blkOk_by (N := ["one", "factor", "weight"]) (sc := defScope sScaled) (by decide +kernel)) (fun _ _ _ _ _ => pg_name (i := 2) scScaled.nd rfl (Or.inl rfl)) (fun _ _ _ _ _ => pts_nil)
        (fun _ _ _ _ _ => pe_op op_mul (pv 2) (pv 1))) pa_nil))), ?_⟩
    refine ⟨.ref a, rfl, a, rfl, ⟨_, hA⟩, fun D nD => ?_⟩
    refine lc_tup (K := K) (a := a) (xs := p.map V.int) (fun i H' => Same H H' ∧ H' D = some (.lst (((p.map (· * -1)).take i).map V.int))) ⟨same_upd nD, upd_same⟩ (fun i H' _ hP => seqT hP.1 hA) (fun i x H' hx hP => ?_) (fun H' hP => ?_)
    · obtain ⟨sm, hD⟩ := hP
      have hi : i < p.length := by
        rcases Nat.lt_or_ge i p.length with h | h
        · exact h
        · rw [List.getElem?_eq_none (by rw [len_ints]; exact h)] at hx
          cases hx
      have ex : x = .int (co p i) := by
        rw [List.getElem?_map, co_some hi] at hx
        exact (Option.some.inj hx).symm
      subst ex
      refine ⟨rfl, _, rfl, .int (-1), rfl, _, _, rfl, rfl, .inr ⟨by decide, by decide⟩, _, hD, ?_, same_put sm nD, ?_⟩
      · rw [len_ints, List.length_take]
        exact small1000 (by omega)
      · rw [upd_same, List.take_add_one, List.map_append, List.getElem?_map, co_some hi]
        rfl
    · obtain ⟨sm, hD⟩ := hP
      rw [List.take_of_length_le (by rw [List.length_map, len_ints]; exact Nat.le_refl _)] at hD
      exact ⟨D, _, rfl, sqL_of hD, by rw [List.length_map]; omega, fun H'' r sm' ht => k H'' r (sm.trans sm') ht⟩

/-! ### p_minus -/
def spMinus (K : PySem.W.Frag) : Sp := fun vs H Q _ => ∃ (a b : Addr) (p q : List Int), vs = [.ref a, .ref b] ∧ Tup K H a p ∧ Tup K H b q ∧ p.length ≤ 500 ∧ q.length ≤ 500 ∧ ∀ H' r, Same H H' → Tup K H' r (psub p q) → Q (.ref r) H'
theorem cb_minus {f : Addr} {fd : FuncData} (F : Fun K "p_minus" "p_minus" sMinus f fd) (g : mg "p_minus" = some (.ref f))
    (cP : Cb P w K mg base 2 "p_plus" (spPlus K)) (cS : Cb P w K mg base 2 "scaled" (spScaled K)) : Cb P w K mg base 3 "p_minus" (spMinus K) := by
  refine ⟨f, fd, ["one", "other"], F.ok scMinus (fun vs H Q E h => ?_) (fun cdv A outer s H vs Q E hr h => ?_), g, F.kp, F.binds fun _ _ _ _ _ _ us hl => match us, hl with | [_, _], _ => rfl⟩
  · obtain ⟨a, b, p, q, rfl, _⟩ := h
    rfl
  · obtain ⟨a, b, p, q, rfl, hA, hB, hp, hq, k⟩ := h
    refine ⟨_, pss_one (ps_ret (pe_cb cP hr (Nat.le_refl _) (by rfl) (pa_cons (pv 0) (pa_cons (pe_cb cS hr (Nat.le_refl _) (by rfl) (pa_cons (pv 1) (pa_cons (pe_un un_neg pe_int) pa_nil))) pa_nil)))), ?_⟩
    have hl := len_pscale q (-1)
    exact ⟨.ref a, rfl, .ref b, rfl, 1, rfl, b, q, rfl, hB, hq, fun H1 r sm hr1 => ⟨a, r, p, pscale q (-1), rfl, seqT sm hA, hr1, hp, by omega, fun H2 r2 sm2 h2 => k H2 r2 (sm.trans sm2) h2⟩⟩

/-! ### p_times -/
def spTimes (K : PySem.W.Frag) : Sp := fun vs H Q _ => ∃ (a b : Addr) (p q : List Int) (A B : Nat), vs = [.ref a, .ref b] ∧ Tup K H a p ∧ Tup K H b q ∧ p.length ≤ 400 ∧ q.length ≤ 400 ∧ Bd p A ∧ Bd q B ∧ 0 < A ∧ 0 < B ∧ A + B ≤ 1000000 ∧
  ∀ H' r, Same H H' → Tup K H' r (pmul p q) → Q (.ref r) H'
theorem zeros (n : Nat) : (List.replicate n [V.int 0]).flatten = (List.replicate n (0 : Int)).map V.int := by
  induction n with
  | zero => rfl
  | succ n ih =>
    rw [List.replicate_succ, List.flatten_cons, ih]
    rfl
theorem ixN_nat {n j : Nat} (h : j < n) : ixN n (j : Int) = some j := by
  unfold ixN
  rw [if_pos (Int.natCast_nonneg j), if_pos (Int.ofNat_lt.mpr h)]
  rfl
theorem get_ints {ns : List Int} {i : Nat} {x : V} (h : (ns.map V.int)[i]? = some x) : i < ns.length ∧ x = .int (co ns i) := by
  have hi : i < ns.length := by
    rcases Nat.lt_or_ge i ns.length with q | q
    · exact q
    · rw [List.getElem?_eq_none (by rw [len_ints]; exact q)] at h
      cases h
  rw [List.getElem?_map, co_some hi] at h
  exact ⟨hi, (Option.some.inj h).symm⟩
theorem cb_times {f : Addr} {fd : FuncData} (F : Fun K "p_times" "p_times" sTimes f fd) (g : mg "p_times" = some (.ref f)) (ml : mg "len" = none) (me : mg "enumerate" = none)
    (cP : Cb P w K mg base 1 "poly" (spPoly K)) : Cb P w K mg base 2 "p_times" (spTimes K) := by
  refine ⟨f, fd, ["one", "other"], F.ok scTimes (fun vs H Q E h => ?_) (fun cdv A outer s H vs Q E hr h => ?_), g, F.kp, F.binds fun _ _ _ _ _ _ us hl => match us, hl with | [_, _], _ => rfl⟩
  · obtain ⟨a, b, p, q, _, _, rfl, _⟩ := h
    rfl
  · obtain ⟨a, b, p, q, nA, nB, rfl, hA, hB, hp, hq, bA, bB, zA, zB, hAB, k⟩ := h
    refine ⟨_, pss_cons (ps_set (i := 2) scTimes.nd rfl (.inl rfl) (pe_op op_rep (pe_lst (pa_cons pe_int pa_nil)) (pe_op op_add (pe_callB call_len_seq (by rfl) ml PySem.boot_len (pa_cons (pv 0) pa_nil)) (pe_callB call_len_seq (by rfl) ml PySem.boot_len (pa_cons (pv 1) pa_nil)))))
      (pss_cons (ps_for PassesOwn.never rfl (pi_enumT (by rfl) me (pa_cons (pv 0) pa_nil)) (pg_tup rfl (pgs_cons (pg_name (i := 3) scTimes.nd rfl (.inl rfl)) (pgs_cons (pg_name (i := 4) scTimes.nd rfl (.inl rfl)) pgs_nil)))
        (pss_one (ps_for PassesOwn.never rfl (pi_enumT (by rfl) me (pa_cons (pv 1) pa_nil)) (pg_tup rfl (pgs_cons (pg_name (i := 5) scTimes.nd rfl (.inl rfl)) (pgs_cons (pg_name (i := 6) scTimes.nd rfl (.inl rfl)) pgs_nil)))
          (pss_one (ps_asg (pe_op op_add (pe_ix ix_list (pv 2) (pe_op op_add (pv 3) (pv 5)) (fun _ _ => rfl)) (pe_op op_mulW (pv 4) (pv 6))) (pg_sub (pv 2) (pe_op op_add (pv 3) (pv 5)) set_list))))))
      (pss_one (ps_ret (pe_cb cP hr (Nat.le_refl _) (by rfl) (pa_cons (pv 2) pa_nil))))), ?_⟩
    -- found = [0] * (len(one) + len(other))
    refine ⟨by show 1 ≤ sizeLine; decide, fun z nz => ?_⟩
    have s1 : Same H (upd H z (.lst [.int 0])) := same_upd nz
    have el : (((p.map V.int).length : Nat) : Int) + (((q.map V.int).length : Nat) : Int) = ((p.length + q.length : Nat) : Int) := by
      rw [len_ints, len_ints]
      omega
    refine ⟨.ref a, rfl, a, p.map V.int, rfl, .inr (seqT s1 hA), .ref b, rfl, b, q.map V.int, rfl, .inr (seqT s1 hB), _, _, rfl, rfl, z, _, [.int 0], rfl, rfl, upd_same, ?_⟩
    rw [el]
    refine ⟨by omega, by omega, ?_, fun o no => ?_⟩
    · rw [Int.toNat_natCast]
      show 1 * (p.length + q.length) ≤ sizeLine
      rw [Nat.one_mul]
      exact Nat.le_of_lt (small1000 (by omega))
    rw [Int.toNat_natCast, zeros, rows_start]
    have s2 : Same H (upd (upd H z (.lst [.int 0])) o (.lst ((rows p q 0 0).map V.int))) := s1.trans (same_upd no)
    have nHo : H o = none := s1.free no
    refine ⟨.ref a, rfl, a, p.map V.int, rfl, seqT s2 hA, ?_⟩
    refine for_it (walk_enumT (K := K) (a := a) (vs := p.map V.int)) (fun i σ H' => ∃ y3 y4 y5 y6, σ = [some (.ref a), some (.ref b), some (.ref o), y3, y4, y5, y6] ∧ Same H H' ∧ H' o = some (.lst ((rows p q i 0).map V.int)))
      ⟨none, none, none, none, rfl, s2, upd_same⟩ (fun i σ H' _ hP => ?_) (fun i x σ H1 H2 hi hP hy => ?_) (fun σ H' hP => ?_)
    · obtain ⟨_, _, _, _, _, sm, _⟩ := hP
      exact seqT sm hA
    · obtain ⟨y3, y4, y5, y6, rfl, sm, ho⟩ := hP
      obtain ⟨T, x1, x2, rfl, nT, rfl, f1, f2⟩ := hy
      cases f1
      obtain ⟨hi, rfl⟩ := get_ints f2
      have sT : Same H (upd H1 T (.tup [.int (i : Nat), .int (co p i)])) := sm.trans (same_upd nT)
      have hoT : (upd H1 T (.tup [.int (i : Nat), .int (co p i)])) o = some (.lst ((rows p q i 0).map V.int)) := by
        rw [upd_ne (ne_of_none ho nT)]
        exact ho
      refine ⟨T, [.int (i : Nat), .int (co p i)], rfl, .inl (.inl upd_same), rfl, .int (i : Nat), [.int (co p i)], rfl, .int (co p i), [], rfl, rfl, ?_⟩
      refine ⟨.ref b, rfl, b, q.map V.int, rfl, seqT sT hB, ?_⟩
      refine for_it (walk_enumT (K := K) (a := b) (vs := q.map V.int)) (fun j σ H' => ∃ y5 y6, σ = [some (.ref a), some (.ref b), some (.ref o), some (.int (i : Nat)), some (.int (co p i)), y5, y6] ∧ Same H H' ∧ H' o = some (.lst ((rows p q i j).map V.int)))
        ⟨y5, y6, rfl, sT, hoT⟩ (fun j σ H' _ hP => ?_) (fun j x σ H3 H4 hj hP hy => ?_) (fun σ H' hP => ?_)
      · obtain ⟨_, _, _, sm, _⟩ := hP
        exact seqT sm hB
      · obtain ⟨z5, z6, rfl, sm3, ho3⟩ := hP
        obtain ⟨T2, x3, x4, rfl, nT2, rfl, f3, f4⟩ := hy
        cases f3
        obtain ⟨hj, rfl⟩ := get_ints f4
        have sT2 : Same H (upd H3 T2 (.tup [.int (j : Nat), .int (co q j)])) := sm3.trans (same_upd nT2)
        have hoT2 : (upd H3 T2 (.tup [.int (j : Nat), .int (co q j)])) o = some (.lst ((rows p q i j).map V.int)) := by
          rw [upd_ne (ne_of_none ho3 nT2)]
          exact ho3
        have eij : ((i : Nat) : Int) + ((j : Nat) : Int) = ((i + j : Nat) : Int) := by omega
        refine ⟨T2, [.int (j : Nat), .int (co q j)], rfl, .inl (.inl upd_same), rfl, .int (j : Nat), [.int (co q j)], rfl, .int (co q j), [], rfl, rfl, ?_⟩
        refine ⟨.ref o, rfl, .int (i : Nat), rfl, .int (j : Nat), rfl, _, _, rfl, rfl, o, _, ((i : Nat) : Int) + ((j : Nat) : Int), .int (co (rows p q i j) (i + j)), rfl, rfl, sqL_of hoT2, ?_, ?_⟩
        · rw [eij]
          exact at_ints (co_some (by rw [rows_len]; omega))
        refine ⟨.int (co p i), rfl, .int (co q j), rfl, _, _, rfl, rfl, wide_mul (bA i) (bB j) zA zB hAB, _, _, rfl, rfl, ?_⟩
        refine ⟨.ref o, rfl, .int (i : Nat), rfl, .int (j : Nat), rfl, _, _, rfl, rfl, o, _, ((i : Nat) : Int) + ((j : Nat) : Int), i + j, rfl, rfl, hoT2, ?_, ?_⟩
        · rw [eij, len_ints, rows_len]
          exact ixN_nat (by omega)
        · refine ⟨_, _, rfl, same_put sT2 nHo, ?_⟩
          rw [upd_same, ← rows_turn hi hj, List.map_set]
      · obtain ⟨z5, z6, rfl, sm3, ho3⟩ := hP
        refine ⟨_, _, _, _, rfl, sm3, ?_⟩
        rw [ho3, len_ints, rows_next hi]
    · obtain ⟨y3, y4, y5, y6, rfl, sm, ho⟩ := hP
      rw [len_ints] at ho
      refine ⟨.ref o, rfl, o, _, rfl, sqL_of ho, by rw [rows_len]; omega, fun H'' r sm' ht => k H'' r (sm.trans sm') ?_⟩
      rw [rows_end] at ht
      exact ht

/-! ### power -/
def spPower (K : PySem.W.Frag) : Sp := fun vs H Q _ => ∃ (a : Addr) (p : List Int) (A n : Nat), vs = [.ref a, .int (n : Nat)] ∧ Tup K H a p ∧ p.length ≤ 7 ∧ Bd p A ∧ 0 < A ∧ A ≤ 1000 ∧ n ≤ 6 ∧
  ∀ H' r, Same H H' → Tup K H' r (ppow p n) → Q (.ref r) H'
theorem cb_power {f : Addr} {fd : FuncData} (F : Fun K "power" "power" sPower f fd) (g : mg "power" = some (.ref f)) (mr : mg "range" = none)
    (cT : Cb P w K mg base 2 "p_times" (spTimes K)) : Cb P w K mg base 3 "power" (spPower K) := by
  refine ⟨f, fd, ["one", "many"], F.ok scPower (fun vs H Q E h => ?_) (fun cdv A outer s H vs Q E hr h => ?_), g, F.kp, F.binds fun _ _ _ _ _ _ us hl => match us, hl with | [_, _], _ => rfl⟩
  · obtain ⟨a, p, _, _, rfl, _⟩ := h
    rfl
  · obtain ⟨a, p, nA, n, rfl, hA, hp, bA, zA, hA2, hn, k⟩ := h
    refine ⟨_, pss_cons (ps_set (i := 2) scPower.nd rfl (.inl rfl) (pe_tup (pa_cons pe_int pa_nil)))
      (pss_cons (ps_for PassesOwn.never rfl (pi_range1 (by rfl) mr (pa_cons (pv 1) pa_nil)) (pg_name (i := 3) scPower.nd rfl (.inl rfl))
        (pss_one (ps_set (i := 2) scPower.nd rfl (.inl rfl) (pe_cb cT hr (Nat.le_refl _) (by rfl) (pa_cons (pv 2) (pa_cons (pv 0) pa_nil))))))
      (pss_one (ps_ret (pv 2)))), ?_⟩
    refine ⟨by show 1 ≤ sizeLine; decide, fun o no => ?_⟩
    refine ⟨.int (n : Nat), rfl, _, rfl, by omega, by omega, ?_⟩
    refine for_range (lo := 0) (n := n) (fun i σ H' => ∃ o y3, σ = [some (.ref a), some (.int (n : Nat)), some (.ref o), y3] ∧ Same H H' ∧ Tup K H' o (ppow p i)) ⟨o, none, rfl, same_upd no, sqT_of upd_same⟩ (fun i σ H' hi hP => ?_) (fun σ H' hP => ?_)
    · obtain ⟨o, y3, rfl, sm, ho⟩ := hP
      have l1 := len_ppow p i
      have l2 : i * p.length ≤ 6 * 7 := Nat.mul_le_mul (by omega) hp
      have l3 : i * (nA + 43) ≤ 6 * 1043 := Nat.mul_le_mul (by omega) (by omega)
      refine ⟨.ref o, rfl, .ref a, rfl, o, a, ppow p i, p, _, nA, rfl, ho, seqT sm hA, by omega, by omega, bd_ppow bA hp i (by omega), bA, by omega, zA, by omega, fun H2 r sm2 h2 => ?_⟩
      exact ⟨r, _, rfl, sm.trans sm2, h2⟩
    · obtain ⟨o, y3, rfl, sm, ho⟩ := hP
      exact ⟨.ref o, rfl, k H' o sm ho⟩
end
end K08

namespace K08
open PySem PySem.Spec PyProof.Rows L2
section
variable {P : Program} {w : World} {base : Heap} {K : PySem.W.Frag} {mg : Str → Option Value}

/-! ### _law_cell_at: some whole number -/
def spCell (K : PySem.W.Frag) : Sp := fun vs H Q _ => ∃ (a : Addr) (ns : List Int) (k : Nat), vs = [.ref a, .int (k : Nat)] ∧ SqL K H a (ns.map V.int) ∧ ∀ x : Int, Q (.int x) H
theorem cb_cell {f : Addr} {fd : FuncData} (F : Fun K "_law_cell_at" "_law_cell_at" sCell f fd) (g : mg "_law_cell_at" = some (.ref f)) (ml : mg "len" = none) : Cb P w K mg base 1 "_law_cell_at" (spCell K) := by
  refine ⟨f, fd, ["_law_script", "_law_k"], F.ok scCell (fun vs H Q E h => ?_) (fun cdv A outer s H vs Q E hr h => ?_), g, F.kp, F.binds fun _ _ _ _ _ _ us hl => match us, hl with | [_, _], _ => rfl⟩
  · obtain ⟨a, ns, k, rfl, _⟩ := h
    rfl
  · obtain ⟨a, ns, k, rfl, hS, q⟩ := h
    refine ⟨_, pss_cons (ps_if (pt_cmpR op_lt (pv 1) (pe_callB call_len_seq (by rfl) ml PySem.boot_len (pa_cons (pv 0) pa_nil)) (nomark _))
      (pss_one (ps_ret (pe_ix ix_list (pv 0) (pv 1) (fun _ _ => rfl)))) pss_nil) (pss_one (ps_ret pe_int)), ?_⟩
    refine ⟨.int (k : Nat), rfl, .ref a, rfl, a, ns.map V.int, rfl, .inl hS, _, _, rfl, rfl, _, rfl, ite2 (fun e => ?_) (fun e => ?_)⟩
    · have e1 : ((k : Nat) : Int) < (((ns.map V.int).length : Nat) : Int) := of_decide_eq_true e
      rw [len_ints] at e1
      exact ⟨.ref a, rfl, .int (k : Nat), rfl, a, ns.map V.int, _, _, rfl, rfl, hS, at_ints (co_some (by omega)), q _⟩
    · exact q _

/-! ### _law_mixed: a number from 0 on, below 2 ^ 41 -/
def spMixed : Sp := fun vs H Q _ => ∃ (c : Int) (k : Nat), vs = [.int c, .int (k : Nat)] ∧ ∀ x : Int, 0 ≤ x → x < 2 ^ 41 → Q (.int x) H
theorem cb_mixed {f : Addr} {fd : FuncData} (F : Fun K "_law_mixed" "_law_mixed" sMixed f fd) (g : mg "_law_mixed" = some (.ref f)) : Cb P w K mg base 1 "_law_mixed" spMixed := by
  refine ⟨f, fd, ["_law_cell", "_law_k"], F.ok scMixed (fun vs H Q E h => ?_) (fun cdv A outer s H vs Q E hr h => ?_), g, F.kp, F.binds fun _ _ _ _ _ _ us hl => match us, hl with | [_, _], _ => rfl⟩
  · obtain ⟨c, k, rfl, _⟩ := h
    rfl
  · obtain ⟨c, k, rfl, q⟩ := h
    refine ⟨_, pss_cons (ps_set (i := 2) scMixed.nd rfl (.inl rfl) (pe_op op_shrN (pe_op op_fdiv (pv 0) pe_int) (pe_op op_mul pe_int (pv 1))))
      (pss_cons (ps_if (PW.pt (pw_and (pt_cmpR op_eq (pe_op op_mod (pv 0) pe_int) pe_int (nomark _)) (pw_and1 (pt_cmpR op_gt (pv 2) pe_int (nomark _)))))
        (pss_one (ps_ret (pe_op op_andM (pv 2) pe_int))) pss_nil)
      (pss_cons (ps_set (i := 3) scMixed.nd rfl (.inl rfl) (pe_op op_mod (pe_op op_mul (pe_op op_add (pe_op op_add (pe_op op_mod (pv 0) pe_int) (pe_op op_mul pe_int (pv 1))) pe_int) pe_int) pe_int))
      (pss_cons (ps_set (i := 3) scMixed.nd rfl (.inl rfl) (pe_op op_mod (pe_op op_mul (pv 3) (pe_op op_add (pe_op op_fdiv (pv 3) pe_int) pe_int)) pe_int))
      (pss_one (ps_ret (pe_op op_mod (pe_op op_mul (pv 3) (pe_op op_add (pe_op op_add (pe_op op_fdiv (pv 3) pe_int) pe_int) (pv 1))) pe_int)))))), ?_⟩
    refine ⟨.int c, rfl, _, _, rfl, rfl, ⟨by decide, by decide⟩, .int (k : Nat), rfl, _, _, rfl, rfl, .inl ⟨by decide, by decide⟩, _, 41 * k, rfl, congrArg V.int (by omega), ?_⟩
    generalize c / 2 / 2 ^ (41 * k) = left
    refine ⟨.int c, rfl, _, _, rfl, rfl, by show (0 : Int) < 2; decide, rfl, _, rfl, ite2 (fun _ => ⟨.int left, rfl, _, _, rfl, rfl, _, rfl, ite2 (fun _ => ?ret) (fun _ => ?r1)⟩) (fun _ => iteF ?r2)⟩
    case ret => exact ⟨.int left, rfl, left, 41, rfl, rfl, q _ (Int.emod_nonneg _ (by decide)) (Int.emod_lt_of_pos _ (by decide))⟩
    all_goals
      refine ⟨.int c, rfl, _, _, rfl, rfl, by show (0 : Int) < 2147483647; decide, .int (k : Nat), rfl, _, _, rfl, rfl, .inl ⟨by decide, by decide⟩, _, _, rfl, rfl, _, _, rfl, rfl, _, _, rfl, rfl, .inr ⟨by decide, by decide⟩, _, _, rfl, rfl, by show (0 : Int) < 2147483647; decide, ?_⟩
      have n1 : 0 ≤ (c % 2147483647 + 7919 * (k : Int) + 1) * 48271 % 2147483647 := Int.emod_nonneg _ (by decide)
      have n2 : (c % 2147483647 + 7919 * (k : Int) + 1) * 48271 % 2147483647 < 2147483647 := Int.emod_lt_of_pos _ (by decide)
      dsimp only
      generalize (c % 2147483647 + 7919 * (k : Int) + 1) * 48271 % 2147483647 = d at n1 n2
      refine ⟨.int d, rfl, .int d, rfl, _, _, rfl, rfl, ⟨by decide, by decide⟩, _, _, rfl, rfl, _, _, rfl, rfl, .inl ⟨by omega, by omega⟩, _, _, rfl, rfl, by show (0 : Int) < 2147483647; decide, ?_⟩
      have n3 : 0 ≤ d * (d / 1009 + 69621) % 2147483647 := Int.emod_nonneg _ (by decide)
      have n4 : d * (d / 1009 + 69621) % 2147483647 < 2147483647 := Int.emod_lt_of_pos _ (by decide)
      dsimp only
      generalize d * (d / 1009 + 69621) % 2147483647 = e at n3 n4
      refine ⟨.int e, rfl, .int e, rfl, _, _, rfl, rfl, ⟨by decide, by decide⟩, _, _, rfl, rfl, .int (k : Nat), rfl, _, _, rfl, rfl, _, _, rfl, rfl, .inl ⟨by omega, by omega⟩, _, _, rfl, rfl, by show (0 : Int) < 2147483629; decide, q _ (Int.emod_nonneg _ (by decide)) ?_⟩
      exact Int.lt_of_lt_of_le (Int.emod_lt_of_pos _ (by decide)) (by decide)

/-! ### _law_weight: a number below 2 ^ 200 either way -/
def spLWeight : Sp := fun vs H Q _ => ∃ (c : Int) (k : Nat), vs = [.int c, .int (k : Nat)] ∧ ∀ (x : Int) (H' : Hp), Same H H' → x.natAbs < 2 ^ 200 → Q (.int x) H'
theorem ten60 : (10 : Int) ^ (60 : Int).toNat = 1000000000000000000000000000000000000000000000000000000000000 := by decide +kernel
theorem ten11 : (10 : Int) ^ (11 : Int).toNat = 100000000000 := by decide +kernel
theorem two200 : (2 : Nat) ^ 200 = 1606938044258990275541962092341162602522202993782792835301376 := by decide +kernel
theorem cb_lweight {f : Addr} {fd : FuncData} (F : Fun K "_law_weight" "_law_weight" sLWeight f fd) (g : mg "_law_weight" = some (.ref f)) (mr : mg "range" = none)
    (cM : Cb P w K mg base 1 "_law_mixed" spMixed) : Cb P w K mg base 2 "_law_weight" spLWeight := by
  refine ⟨f, fd, ["_law_cell", "_law_k"], F.ok scLWeight (fun vs H Q E h => ?_) (fun cdv A outer s H vs Q E hr h => ?_), g, F.kp, F.binds fun _ _ _ _ _ _ us hl => match us, hl with | [_, _], _ => rfl⟩
  · obtain ⟨c, k, rfl, _⟩ := h
    rfl
  · obtain ⟨c, k, rfl, q⟩ := h
    refine ⟨_, pss_cons (ps_set (i := 2) scLWeight.nd rfl (.inl rfl) (pe_cb cM hr (Nat.le_refl _) (by rfl) (pa_cons (pv 0) (pa_cons (pv 1) pa_nil))))
      (pss_cons (ps_set (i := 3) scLWeight.nd rfl (.inl rfl) (pe_lst (pa_cons (pe_op op_sub (pe_op op_mod (pe_op op_fdiv (pv 2) pe_int) pe_int) pe_int) (pa_cons (pe_op op_sub (pe_op op_mod (pe_op op_fdiv (pv 2) pe_int) pe_int) pe_int) (pa_cons (pe_op op_sub (pe_op op_mod (pe_op op_fdiv (pv 2) pe_int) pe_int) pe_int) pa_nil)))))
      (pss_cons (ps_set (i := 4) scLWeight.nd rfl (.inl rfl) pe_int)
      (pss_cons (ps_if (pt_cmpR op_eq (pe_op op_mod (pv 2) pe_int) pe_int (nomark _))
        (pss_cons (ps_for PassesOwn.never rfl (pi_range1 (by rfl) mr (pa_cons pe_int pa_nil)) (pg_name (i := 5) scLWeight.nd rfl (.inl rfl))
            (pss_one (ps_set (i := 4) scLWeight.nd rfl (.inl rfl) (pe_op op_add (pe_op op_mul (pv 4) pe_int) (pe_cb cM hr (Nat.le_refl _) (by rfl) (pa_cons (pv 0) (pa_cons (pe_op op_add (pe_op op_add pe_int (pe_op op_mul pe_int (pv 1))) (pv 5)) pa_nil)))))))
          (pss_one (ps_ret (pe_op op_add (pe_op op_sub (pe_op op_mod (pv 4) (pe_op op_sub (pe_op op_mul pe_int (pe_op op_pow pe_int pe_int)) pe_int)) (pe_op op_pow pe_int pe_int)) pe_int))))
        pss_nil)
      (pss_one (ps_ret (pe_ix ix_list (pe_op op_cat (pv 3) (pe_lst (pa_cons (pe_op op_sub (pe_op op_mod (pe_op op_mul (pe_op op_fdiv (pv 2) pe_int) pe_int) (pe_op op_mul pe_int (pe_op op_pow pe_int pe_int))) (pe_op op_mul pe_int (pe_op op_pow pe_int pe_int))) pa_nil))) (pe_op op_mod (pv 2) pe_int) (fun _ _ => rfl))))))), ?_⟩
    refine ⟨.int c, rfl, .int (k : Nat), rfl, c, k, rfl, fun part p0 p1 => ?_⟩
    refine ⟨.int part, rfl, _, _, rfl, rfl, ⟨by decide, by decide⟩, _, _, rfl, rfl, by show (0 : Int) < 7; decide, _, _, rfl, rfl,
      .int part, rfl, _, _, rfl, rfl, ⟨by decide, by decide⟩, _, _, rfl, rfl, by show (0 : Int) < 7; decide, _, _, rfl, rfl,
      .int part, rfl, _, _, rfl, rfl, ⟨by decide, by decide⟩, _, _, rfl, rfl, by show (0 : Int) < 201; decide, _, _, rfl, rfl, by show 3 ≤ sizeLine; decide, fun o no => ?_⟩
    have s1 := same_upd (o := HO.lst [V.int (part / 4 % 7 - 3), V.int (part / 4 % 7 - 3), V.int (part / 4 % 201 - 100)]) no
    refine ⟨.int part, rfl, _, _, rfl, rfl, by show (0 : Int) < 16; decide, rfl, _, rfl, ite2 (fun _ => ?_) (fun _ => ?_)⟩
    · refine ⟨6, rfl, by decide, by decide, ?_⟩
      refine for_range (lo := 0) (n := 6) (fun i σ H' => ∃ far y5, σ = [some (.int c), some (.int (k : Nat)), some (.int part), some (.ref o), some (.int far), y5] ∧ Same H H') ⟨0, none, rfl, s1⟩ (fun i σ H' hi hP => ?_) (fun σ H' hP => ?_)
      · obtain ⟨far, y5, rfl, sm⟩ := hP
        refine ⟨.int far, rfl, _, _, rfl, rfl, .inr ⟨by decide, by decide⟩, .int c, rfl, .int (k : Nat), rfl, _, _, rfl, rfl, .inl ⟨by decide, by decide⟩, _, _, rfl, rfl, .int (0 + (i : Int)), rfl, _, _, rfl, rfl, c, 40 + 6 * k + i,
          congrArg (fun z : Int => [V.int c, V.int z]) (show 40 + 6 * (k : Int) + (0 + (i : Int)) = ((40 + 6 * k + i : Nat) : Int) by omega), fun x _ _ => ?_⟩
        exact ⟨_, _, rfl, rfl, _, _, rfl, sm⟩
      · obtain ⟨far, y5, rfl, sm⟩ := hP
        refine ⟨.int far, rfl, _, _, rfl, rfl, ⟨by decide, by decide, by decide⟩, _, _, rfl, rfl, .inl ⟨by decide, by decide⟩, _, _, rfl, rfl, _, _, rfl, rfl, by show (0 : Int) < 2 * 10 ^ (60 : Int).toNat - 1; rw [ten60]; decide,
          _, _, rfl, rfl, ⟨by decide, by decide, by decide⟩, _, _, rfl, rfl, _, _, rfl, rfl, q _ _ sm ?_⟩
        rw [ten60, two200]
        have n1 : 0 ≤ far % (2 * 1000000000000000000000000000000000000000000000000000000000000 - 1) := Int.emod_nonneg _ (by decide)
        have n2 : far % (2 * 1000000000000000000000000000000000000000000000000000000000000 - 1) < (2 * 1000000000000000000000000000000000000000000000000000000000000 - 1) := Int.emod_lt_of_pos _ (by decide)
        omega
    · refine ⟨.ref o, rfl, .int part, rfl, _, _, rfl, rfl, ⟨by decide, by decide⟩, _, _, rfl, rfl, .inr ⟨by decide, by decide⟩, _, _, rfl, rfl, ⟨by decide, by decide, by decide⟩, _, _, rfl, rfl, .inl ⟨by decide, by decide⟩,
        _, _, rfl, rfl, by show (0 : Int) < 4 * 10 ^ (11 : Int).toNat; rw [ten11]; decide, _, _, rfl, rfl, ⟨by decide, by decide, by decide⟩, _, _, rfl, rfl, .inl ⟨by decide, by decide⟩, _, _, rfl, rfl, by show 1 ≤ sizeLine; decide, fun o2 no2 => ?_⟩
      dsimp only at no2 ⊢
      have noo : o ≠ o2 := ne_of_none upd_same no2
      have n4a : 0 ≤ part % 4 := Int.emod_nonneg _ (by decide)
      have n4b : part % 4 < 4 := Int.emod_lt_of_pos _ (by decide)
      have n7a : 0 ≤ part / 4 % 7 := Int.emod_nonneg _ (by decide)
      have n7b : part / 4 % 7 < 7 := Int.emod_lt_of_pos _ (by decide)
      have n2a : 0 ≤ part / 4 % 201 := Int.emod_nonneg _ (by decide)
      have n2b : part / 4 % 201 < 201 := Int.emod_lt_of_pos _ (by decide)
      rw [ten11]
      have n1a : 0 ≤ part / 4 * 7451 % (4 * 100000000000) := Int.emod_nonneg _ (by decide)
      have n1b : part / 4 * 7451 % (4 * 100000000000) < 4 * 100000000000 := Int.emod_lt_of_pos _ (by decide)
      generalize part / 4 * 7451 % (4 * 100000000000) = r1 at n1a n1b
      generalize part / 4 % 201 = r2 at n2a n2b no2
      generalize part / 4 % 7 = r7 at n7a n7b no2
      refine ⟨o, o2, [V.int (r7 - 3), V.int (r7 - 3), V.int (r2 - 100)], [V.int (r1 - 2 * 100000000000)], rfl, rfl, by rw [upd_ne noo, upd_same], upd_same, by show 3 + 1 ≤ sizeLine; decide, fun o3 no3 => ?_⟩
      refine ⟨.int part, rfl, _, _, rfl, rfl, by show (0 : Int) < 4; decide, o3, _, part % 4, .int (co [r7 - 3, r7 - 3, r2 - 100, r1 - 2 * 100000000000] (part % 4).toNat), rfl, rfl, sqL_of upd_same, ?_, q _ _ ((same_upd no).trans ((same_upd no2).trans (same_upd no3))) ?_⟩
      · have e4 : part % 4 = (((part % 4).toNat : Nat) : Int) := by omega
        rw [e4]
        exact at_ints (ns := [r7 - 3, r7 - 3, r2 - 100, r1 - 2 * 100000000000]) (co_some (by show (part % 4).toNat < 4; omega))
      · rw [two200]
        have h4 : (part % 4).toNat = 0 ∨ (part % 4).toNat = 1 ∨ (part % 4).toNat = 2 ∨ (part % 4).toNat = 3 := by omega
        rcases h4 with h | h | h | h
        · rw [h]
          show (r7 - 3).natAbs < _
          omega
        · rw [h]
          show (r7 - 3).natAbs < _
          omega
        · rw [h]
          show (r2 - 100).natAbs < _
          omega
        · rw [h]
          show (r1 - 2 * 100000000000).natAbs < _
          omega

/-! ### _law_cut: without the noughts at the end -/
def spCut (K : PySem.W.Frag) : Sp := fun vs H Q _ => ∃ (a : Addr) (ns : List Int), vs = [.ref a] ∧ SqL K H a (ns.map V.int) ∧ ns.length ≤ 1000 ∧ ∀ H' r, Same H H' → Tup K H' r (trim ns) → Q (.ref r) H'
theorem co_take {l : List Int} {m k : Nat} (h : k < m) : co (l.take m) k = co l k := by
  unfold co
  rw [List.getD_eq_getElem?_getD, List.getD_eq_getElem?_getD, List.getElem?_take, if_pos h]
theorem at_last {ns : List Int} (h : 0 < ns.length) : atI (ns.map V.int) (-1) = some (.int (co ns (ns.length - 1))) := by
  unfold atI ixN
  rw [if_neg (by omega), if_pos (by rw [len_ints]; omega), len_ints]
  have e : (-1 + (ns.length : Int)).toNat = ns.length - 1 := by omega
  show (ns.map V.int)[(-1 + (ns.length : Int)).toNat]? = _
  rw [e, List.getElem?_map, co_some (by omega)]
  rfl
theorem cb_cut {f : Addr} {fd : FuncData} (F : Fun K "_law_cut" "_law_cut" sCut f fd) (g : mg "_law_cut" = some (.ref f)) (mL : mg "list" = none) (mt : mg "tuple" = none) : Cb P w K mg base 1 "_law_cut" (spCut K) := by
  refine ⟨f, fd, ["_law_weights"], F.ok scCut (fun vs H Q E h => ?_) (fun cdv A outer s H vs Q E hr h => ?_), g, F.kp, F.binds fun _ _ _ _ _ _ us hl => match us, hl with | [_], _ => rfl⟩
  · obtain ⟨a, ns, rfl, _⟩ := h
    rfl
  · obtain ⟨a, ns, rfl, hS, hlen, q⟩ := h
    refine ⟨_, pss_cons (ps_set (i := 1) scCut.nd rfl (.inl rfl) (pe_callTy call_list_of (by rfl) mL PyProof.Rows.boot_list (pa_cons (pv 0) pa_nil)))
      (pss_cons (ps_while PassesOwn.never
          (PW.pt (pw_and (pt_cmpR (ne_lst hr.units) (pv 1) (pe_lst pa_nil) (nomark _)) (pw_and1 (pt_cmpR op_eq (pe_ix ix_list (pv 1) (pe_un un_neg pe_int) (fun _ _ => rfl)) pe_int (nomark _)))))
          (pss_one (ps_expr (pe_bm0 PySem.F.plainAttrs_list PySem.F.slot_list_pop PySem.F.type_list_pop mt_pop (pv 1)))))
      (pss_one (ps_ret (pe_callTy call_tuple_of (by rfl) mt PyProof.Rows.boot_tuple (pa_cons (pv 1) pa_nil))))), ?_⟩
    refine ⟨.ref a, rfl, a, ns.map V.int, rfl, .inl hS, fun o no => ?_⟩
    refine ⟨fun m σ H1 => σ = [some (.ref a), some (.ref o)] ∧ Same H H1 ∧ H1 o = some (.lst ((ns.take m).map V.int)) ∧ m ≤ ns.length ∧ ∀ k, m ≤ k → co ns k = 0, ⟨ns.length, rfl, same_upd no, ?_, Nat.le_refl _, fun k hk => co_big hk⟩, fun m σ H1 hW => ?_⟩
    · rw [upd_same, List.take_length]
    · obtain ⟨rfl, sm, ho, hm, hz⟩ := hW
      have hl : (ns.take m).length = m := by
        rw [List.length_take]
        omega
      refine ⟨.ref o, rfl, Nat.zero_le _, fun l nl => ?_⟩
      have ho2 : (upd H1 l (.lst [])) o = some (.lst ((ns.take m).map V.int)) := by
        rw [upd_ne (ne_of_none ho nl)]
        exact ho
      have sm2 : Same H (upd H1 l (.lst [])) := same_put sm (sm.free nl)
      have nHo : H o = none := no
      have ek : (!decide (ns.take m = [])) = decide (0 < m) := by
        by_cases h : 0 < m
        · rw [decide_eq_true h, decide_eq_false (fun z => by rw [z] at hl; exact absurd hl (by show ¬ 0 = m; omega))]
          rfl
        · have h0 : m = 0 := by omega
          subst h0
          rfl
      have done : (m = 0 ∨ co ns (m - 1) ≠ 0) → ∃ p ys, [V.ref o] = [V.ref p] ∧ ((SqL K (upd H1 l (.lst [])) p ys ∧ ∀ r, (upd H1 l (.lst [])) r = none → Q (.ref r) (upd (upd H1 l (.lst [])) r (.tup ys))) ∨ (SqT K (upd H1 l (.lst [])) p ys ∧ Q (.ref p) (upd H1 l (.lst [])))) := fun hend =>
        ⟨o, _, rfl, .inl ⟨sqL_of ho2, fun r nr => q _ r (sm2.trans (same_upd nr)) (sqT_of (by rw [upd_same, trim_take hm hz hend]))⟩⟩
      refine ⟨o, l, ns.take m, [], rfl, rfl, sqL_of ho2, sqL_of upd_same, decide (0 < m), congrArg V.bl ek, ite2 (fun e => ?_) (fun e => ?_)⟩
      · have h0 : 0 < m := of_decide_eq_true e
        refine ⟨.ref o, rfl, 1, rfl, o, _, -1, .int (co (ns.take m) ((ns.take m).length - 1)), rfl, rfl, sqL_of ho2, at_last (by omega), rfl, _, rfl, ite2 (fun e2 => ?_) (fun e2 => ?_)⟩
        · have e3 : co ns (m - 1) = 0 := by
            have e4 : co (ns.take m) ((ns.take m).length - 1) = 0 := V.int.inj (of_decide_eq_true e2)
            rw [hl, co_take (by omega)] at e4
            exact e4
          refine ⟨fun σ' H' => σ' = [some (.ref a), some (.ref o)] ∧ Same H H' ∧ H' o = some (.lst ((ns.take (m - 1)).map V.int)), fun σ' H' hN => ⟨m - 1, by omega, hN.1, hN.2.1, hN.2.2, by omega, fun k hk => ?_⟩,
            .ref o, rfl, .inl ⟨rfl, _, sqL_of ho2⟩, o, _, .int (co (ns.take m) (m - 1)), rfl, rfl, ho2, ?_, rfl, same_put sm2 nHo, ?_⟩
          · by_cases ek : k = m - 1
            · rw [ek]
              exact e3
            · exact hz k (by omega)
          · rw [len_ints, hl, List.getElem?_map, co_some (by omega)]
            rfl
          · rw [upd_same, List.dropLast_eq_take, len_ints, hl, ← List.map_take, List.take_take, Nat.min_eq_left (by omega)]
        · exact ⟨.ref o, rfl, done (.inr fun z => e2 (decide_eq_true (by rw [hl, co_take (by omega), z])))⟩
      · have h0 : m = 0 := by
          have e1 : ¬ 0 < m := fun z => e (decide_eq_true z)
          omega
        exact iteF ⟨.ref o, rfl, done (.inl h0)⟩

/-! ### _law_poly: a polynomial of degree up to 6 -/
def spLPoly (K : PySem.W.Frag) : Sp := fun vs H Q _ => ∃ c : Int, vs = [.int c, .int 6] ∧ ∀ (ns : List Int) (H' : Hp) (r : Addr), Same H H' → Pol ns → ns.length ≤ 7 → Bd ns 200 → Tup K H' r ns → Q (.ref r) H'
theorem bd_snoc {ns : List Int} {x : Int} {A : Nat} (h : Bd ns A) (hx : x.natAbs < 2 ^ A) : Bd (ns ++ [x]) A := fun k => by
  by_cases h1 : k < ns.length
  · have e : co (ns ++ [x]) k = co ns k := co_get (by rw [List.getElem?_append_left h1, co_some h1])
    rw [e]
    exact h k
  · by_cases h2 : k = ns.length
    · have e : co (ns ++ [x]) k = x := co_get (by rw [h2, List.getElem?_append_right (Nat.le_refl _), Nat.sub_self]; rfl)
      rw [e]
      exact hx
    · rw [co_big (by rw [List.length_append]; show ns.length + 1 ≤ k; omega)]
      exact Nat.two_pow_pos _
theorem bd_trim {ns : List Int} {A : Nat} (h : Bd ns A) : Bd (trim ns) A := fun k => by
  rw [co_trim]
  exact h k
theorem bd_nil {A : Nat} : Bd [] A := fun _ => Nat.two_pow_pos _
theorem cb_lpoly {f : Addr} {fd : FuncData} (F : Fun K "_law_poly" "_law_poly" sLPoly f fd) (g : mg "_law_poly" = some (.ref f)) (mr : mg "range" = none)
    (cW : Cb P w K mg base 2 "_law_weight" spLWeight) (cC : Cb P w K mg base 1 "_law_cut" (spCut K)) : Cb P w K mg base 3 "_law_poly" (spLPoly K) := by
  refine ⟨f, fd, ["_law_cell", "_law_most"], F.ok scLPoly (fun vs H Q E h => ?_) (fun cdv A outer s H vs Q E hr h => ?_), g, F.kp, F.binds fun _ _ _ _ _ _ us hl => match us, hl with | [_, _], _ => rfl⟩
  · obtain ⟨c, rfl, _⟩ := h
    rfl
  · obtain ⟨c, rfl, q⟩ := h
    refine ⟨_, pss_one (ps_ret (pe_cb cC hr (by decide) (by rfl) (pa_cons (pe_lc (own := [("_law_k", 2)]) (g := gName 2) (tt := tYes) rfl scLPoly.nd (pi_range1 (by rfl) mr (pa_cons (pe_op op_mod (pe_op op_mod (pv 0) pe_int) (pe_op op_add (pv 1) pe_int)) pa_nil))
        (blkOk_by (N := ["_law_cell", "_law_most", "_law_k"]) (sc := defScope sLPoly) (by decide +kernel)) (fun _ _ _ _ _ => pg_name (i := 2) scLPoly.nd rfl (Or.inl rfl)) (fun _ _ _ _ _ => pts_nil)
        (fun _ _ _ _ _ => pe_cb cW hr (Nat.le_refl _) (by rfl) (pa_cons (pe_op op_fdiv (pv 0) pe_int) (pa_cons (pv 2) pa_nil)))) pa_nil))), ?_⟩
    have n1 : 0 ≤ c % 20 % 8 := Int.emod_nonneg _ (by decide)
    have n2 : c % 20 % 8 < 8 := Int.emod_lt_of_pos _ (by decide)
    refine ⟨.int c, rfl, _, _, rfl, rfl, by show (0 : Int) < 20; decide, .int 6, rfl, _, _, rfl, rfl, _, _, rfl, rfl, by show (0 : Int) < 8; decide, c % 20 % 8, rfl, by omega, by omega, fun D nD => ?_⟩
    refine lc_range (lo := 0) (n := (c % 20 % 8).toNat) (fun i H' => ∃ ns : List Int, Same H H' ∧ H' D = some (.lst (ns.map V.int)) ∧ ns.length = i ∧ Bd ns 200) ⟨[], same_upd nD, upd_same, rfl, bd_nil⟩ (fun i H' hi hP => ?_) (fun H' hP => ?_)
    · obtain ⟨ns, sm, hD, hl, hb⟩ := hP
      rw [Int.zero_add]
      refine ⟨rfl, .int c, rfl, _, _, rfl, rfl, ⟨by decide, by decide⟩, .int (i : Nat), rfl, c / 20, i, rfl, fun x H2 sm2 hx => ⟨_, sm2 _ _ hD, ?_, ns ++ [x], same_put (sm.trans sm2) nD, ?_, ?_, bd_snoc hb hx⟩⟩
      · rw [len_ints]
        exact small1000 (by omega)
      · rw [upd_same, List.map_append]
        rfl
      · rw [List.length_append, hl]
        rfl
    · obtain ⟨ns, sm, hD, hl, hb⟩ := hP
      have ht := trim_len ns
      exact ⟨D, ns, rfl, sqL_of hD, by omega, fun H2 r sm2 h2 => q (trim ns) H2 r (sm.trans sm2) (pol_trim ns) (by omega) (bd_trim hb) h2⟩
end
end K08

namespace K08
open PySem PySem.Spec PyProof.Rows L2
section
variable {P : Program} {w : World} {base : Heap} {K : PySem.W.Frag} {mg : Str → Option Value}

/-- what is known of a polynomial of the law -/
structure Nice (p : List Int) : Prop where
  pol : Pol p
  len : p.length ≤ 7
  bd : Bd p 200
/-- what stands while the law runs -/
structure Stands (K : PySem.W.Frag) (H : Hp) (a a1 a2 a3 : Addr) (ns p q t : List Int) : Prop where
  s : SqL K H a (ns.map V.int)
  h1 : Tup K H a1 p
  h2 : Tup K H a2 q
  h3 : Tup K H a3 t
theorem Stands.same {H H' : Hp} {a a1 a2 a3 : Addr} {ns p q t : List Int} (e : Stands K H a a1 a2 a3 ns p q t) (sm : Same H H') : Stands K H' a a1 a2 a3 ns p q t := ⟨sm.seq e.s, seqT sm e.h1, seqT sm e.h2, seqT sm e.h3⟩
theorem ne_false {ns ms : List Int} (h : ns = ms) : V.bl (!decide (ns = ms)) = V.bl false := by
  rw [decide_eq_true h]
  rfl
theorem eq_true {ns ms : List Int} (h : ns = ms) : V.bl (decide (ns = ms)) = V.bl true := by
  rw [decide_eq_true h]
theorem ifS_key {c : TT} {tb : TS} {D : Ends} {σ : L2.St} {H : Hp} (h : (∀ H1, Same H H1 → D.nx σ H1) → c σ H (fun b H1 => if b = true then tb D σ H1 else D.nx σ H1)) (key : ∀ H1, Same H H1 → D.nx σ H1) : tIfS c tb tNext D σ H := h key

theorem neI {x y : Int} (h : x = y) : V.bl (!decide (V.int x = V.int y)) = V.bl false := by
  rw [decide_eq_true (congrArg V.int h)]
  rfl

/-! ### the law -/
def spLaw (K : PySem.W.Frag) : Sp := fun vs H Q _ => ∃ (a : Addr) (ns : List Int), vs = [.ref a] ∧ SqL K H a (ns.map V.int) ∧ ∀ H', Q (.bl true) H'
theorem ok_law {f : Addr} {fd : FuncData} (F : Fun K "law" "law" sLaw f fd) (mm : mg "max" = none)
    (cC : Cb P w K mg base 1 "_law_cell_at" (spCell K)) (cL : Cb P w K mg base 3 "_law_poly" (spLPoly K)) (cP : Cb P w K mg base 2 "p_plus" (spPlus K)) (cT : Cb P w K mg base 2 "p_times" (spTimes K))
    (cM : Cb P w K mg base 3 "p_minus" (spMinus K)) (cS : Cb P w K mg base 2 "scaled" (spScaled K)) (cD : Cb P w K mg base 1 "degree" (spDegree K)) (cW : Cb P w K mg base 3 "power" (spPower K)) :
    FnOk P w K mg base CX0 4 f fd ["_law_script"] (spLaw K) := by
  refine F.ok scLaw (fun vs H Q E h => ?_) (fun cdv A outer s H vs Q E hr h => ?_)
  · obtain ⟨a, ns, rfl, _⟩ := h
    rfl
  · obtain ⟨a, ns, rfl, hS, fin⟩ := h
    refine ⟨_, pss_cons (ps_set (i := 1) scLaw.nd rfl (.inl rfl) (pe_cb cL hr (by decide) (by rfl) (pa_cons (pe_cb cC hr (by decide) (by rfl) (pa_cons (pv 0) (pa_cons pe_int pa_nil))) (pa_cons pe_int pa_nil))))
      (pss_cons (ps_set (i := 2) scLaw.nd rfl (.inl rfl) (pe_cb cL hr (by decide) (by rfl) (pa_cons (pe_cb cC hr (by decide) (by rfl) (pa_cons (pv 0) (pa_cons pe_int pa_nil))) (pa_cons pe_int pa_nil))))
      (pss_cons (ps_set (i := 3) scLaw.nd rfl (.inl rfl) (pe_cb cL hr (by decide) (by rfl) (pa_cons (pe_cb cC hr (by decide) (by rfl) (pa_cons (pv 0) (pa_cons pe_int pa_nil))) (pa_cons pe_int pa_nil))))
      -- sums and products in the other order
      (pss_cons (ps_if (PW.pt (pw_or (pt_cmpR (ne_tup hr.units) (pe_cb cP hr (by decide) (by rfl) (pa_cons (pv 1) (pa_cons (pv 2) pa_nil))) (pe_cb cP hr (by decide) (by rfl) (pa_cons (pv 2) (pa_cons (pv 1) pa_nil))) (nomark _))
          (pw_or1 (pt_cmpR (ne_tup hr.units) (pe_cb cT hr (by decide) (by rfl) (pa_cons (pv 1) (pa_cons (pv 2) pa_nil))) (pe_cb cT hr (by decide) (by rfl) (pa_cons (pv 2) (pa_cons (pv 1) pa_nil))) (nomark _))))) (pss_one (ps_ret pe_bl)) pss_nil)
      -- sums put together
      (pss_cons (ps_if (pt_cmpR (ne_tup hr.units) (pe_cb cP hr (by decide) (by rfl) (pa_cons (pe_cb cP hr (by decide) (by rfl) (pa_cons (pv 1) (pa_cons (pv 2) pa_nil))) (pa_cons (pv 3) pa_nil)))
          (pe_cb cP hr (by decide) (by rfl) (pa_cons (pv 1) (pa_cons (pe_cb cP hr (by decide) (by rfl) (pa_cons (pv 2) (pa_cons (pv 3) pa_nil))) pa_nil))) (nomark _)) (pss_one (ps_ret pe_bl)) pss_nil)
      -- products put together
      (pss_cons (ps_if (pt_cmpR (ne_tup hr.units) (pe_cb cT hr (by decide) (by rfl) (pa_cons (pe_cb cT hr (by decide) (by rfl) (pa_cons (pv 1) (pa_cons (pv 2) pa_nil))) (pa_cons (pv 3) pa_nil)))
          (pe_cb cT hr (by decide) (by rfl) (pa_cons (pv 1) (pa_cons (pe_cb cT hr (by decide) (by rfl) (pa_cons (pv 2) (pa_cons (pv 3) pa_nil))) pa_nil))) (nomark _)) (pss_one (ps_ret pe_bl)) pss_nil)
      -- products over sums
      (pss_cons (ps_if (pt_cmpR (ne_tup hr.units) (pe_cb cT hr (by decide) (by rfl) (pa_cons (pv 1) (pa_cons (pe_cb cP hr (by decide) (by rfl) (pa_cons (pv 2) (pa_cons (pv 3) pa_nil))) pa_nil)))
          (pe_cb cP hr (by decide) (by rfl) (pa_cons (pe_cb cT hr (by decide) (by rfl) (pa_cons (pv 1) (pa_cons (pv 2) pa_nil))) (pa_cons (pe_cb cT hr (by decide) (by rfl) (pa_cons (pv 1) (pa_cons (pv 3) pa_nil))) pa_nil))) (nomark _)) (pss_one (ps_ret pe_bl)) pss_nil)
      -- differences
      (pss_cons (ps_if (PW.pt (pw_or (pt_cmpR (ne_tup hr.units) (pe_cb cP hr (by decide) (by rfl) (pa_cons (pe_cb cM hr (by decide) (by rfl) (pa_cons (pv 1) (pa_cons (pv 2) pa_nil))) (pa_cons (pv 2) pa_nil))) (pv 1) (nomark _))
          (pw_or (pt_cmpR (ne_tup hr.units) (pe_cb cM hr (by decide) (by rfl) (pa_cons (pv 1) (pa_cons (pv 1) pa_nil))) (pe_tup pa_nil) (nomark _))
          (pw_or1 (pt_cmpR (ne_tup hr.units) (pe_cb cP hr (by decide) (by rfl) (pa_cons (pv 1) (pa_cons (pe_cb cS hr (by decide) (by rfl) (pa_cons (pv 1) (pa_cons (pe_un un_neg pe_int) pa_nil))) pa_nil))) (pe_tup pa_nil) (nomark _)))))) (pss_one (ps_ret pe_bl)) pss_nil)
      -- degrees of products
      (pss_cons (ps_if (PW.pt (pw_and (pt_cmpR (ne_tup hr.units) (pv 1) (pe_tup pa_nil) (nomark _)) (pw_and (pt_cmpR (ne_tup hr.units) (pv 2) (pe_tup pa_nil) (nomark _))
          (pw_and1 (pt_cmpR op_ne (pe_cb cD hr (by decide) (by rfl) (pa_cons (pe_cb cT hr (by decide) (by rfl) (pa_cons (pv 1) (pa_cons (pv 2) pa_nil))) pa_nil)) (pe_op op_add (pe_cb cD hr (by decide) (by rfl) (pa_cons (pv 1) pa_nil)) (pe_cb cD hr (by decide) (by rfl) (pa_cons (pv 2) pa_nil))) (nomark _)))))) (pss_one (ps_ret pe_bl)) pss_nil)
      -- degrees of sums, nought
      (pss_cons (ps_if (PW.pt (pw_or (pt_cmpR op_gt (pe_cb cD hr (by decide) (by rfl) (pa_cons (pe_cb cP hr (by decide) (by rfl) (pa_cons (pv 1) (pa_cons (pv 2) pa_nil))) pa_nil))
            (pe_callB (call_max2 rfl) (by rfl) mm PyProof.Rows.boot_max (pa_cons (pe_cb cD hr (by decide) (by rfl) (pa_cons (pv 1) pa_nil)) (pa_cons (pe_cb cD hr (by decide) (by rfl) (pa_cons (pv 2) pa_nil)) pa_nil))) (nomark _))
          (pw_or1 (pt_cmpR (ne_tup hr.units) (pe_cb cT hr (by decide) (by rfl) (pa_cons (pv 1) (pa_cons (pe_tup pa_nil) pa_nil))) (pe_tup pa_nil) (nomark _))))) (pss_one (ps_ret pe_bl)) pss_nil)
      -- powers
      (pss_cons (ps_set (i := 4) scLaw.nd rfl (.inl rfl) (pe_op op_mod (pe_cb cC hr (by decide) (by rfl) (pa_cons (pv 0) (pa_cons pe_int pa_nil))) pe_int))
      (pss_cons (ps_set (i := 5) scLaw.nd rfl (.inl rfl) (pe_op op_mod (pe_op op_fdiv (pe_cb cC hr (by decide) (by rfl) (pa_cons (pv 0) (pa_cons pe_int pa_nil))) pe_int) pe_int))
      (pss_one (ps_ret (pe_and (pe_cmpR (eq_tup hr.units) (pe_cb cT hr (by decide) (by rfl) (pa_cons (pe_cb cW hr (by decide) (by rfl) (pa_cons (pv 1) (pa_cons (pv 4) pa_nil))) (pa_cons (pe_cb cW hr (by decide) (by rfl) (pa_cons (pv 1) (pa_cons (pv 5) pa_nil))) pa_nil)))
          (pe_cb cW hr (by decide) (by rfl) (pa_cons (pv 1) (pa_cons (pe_op op_add (pv 4) (pv 5)) pa_nil))) (nomark _))
        (pe_one (pe_cmpR (eq_tup hr.units) (pe_cb cT hr (by decide) (by rfl) (pa_cons (pv 1) (pa_cons (pe_tup (pa_cons pe_int pa_nil)) pa_nil))) (pv 1) (nomark _))))))))))))))))), ?_⟩
    refine ⟨.ref a, rfl, a, ns, 0, rfl, hS, fun c1 => ⟨c1, rfl, fun p H1 a1 sm1 pp lp bp h1 => ?_⟩⟩
    have hS1 := sm1.seq hS
    refine ⟨.ref a, rfl, a, ns, 1, rfl, hS1, fun c2 => ⟨c2, rfl, fun q H2 a2 sm2 pq lq bq h2 => ?_⟩⟩
    have hS2 := sm2.seq hS1
    refine ⟨.ref a, rfl, a, ns, 2, rfl, hS2, fun c3 => ⟨c3, rfl, fun t H3 a3 sm3 pt lt bt h3 => ?_⟩⟩
    have e0 : Stands K H3 a a1 a2 a3 ns p q t := ⟨sm3.seq hS2, seqT sm3 (seqT sm2 h1), seqT sm3 h2, h3⟩
    clear h1 h2 h3 hS hS1 hS2 sm1 sm2 sm3
    have l12 := len_padd p q
    have l23 := len_padd q t
    have m12 := len_pmul p q
    have m23 := len_pmul q t
    have m13 := len_pmul p t
    have d12 := len_psub p q
    have d11 := len_psub p p
    have n1 := len_pscale p (-1)
    have b12 : Bd (pmul p q) 407 := (bd_pmul bp bq).mono (by omega)
    have b21 : Bd (pmul q t) 407 := (bd_pmul bq bt).mono (by omega)
    -- sums and products in the other order
    refine ⟨.ref a1, rfl, .ref a2, rfl, a1, a2, p, q, rfl, e0.h1, e0.h2, by omega, by omega, fun H4 r1 s1 t1 => ?_⟩
    have e1 := e0.same s1
    refine ⟨.ref a2, rfl, .ref a1, rfl, a2, a1, q, p, rfl, e1.h2, e1.h1, by omega, by omega, fun H5 r2 s2 t2 => ?_⟩
    have e2 := e1.same s2
    refine ⟨r1, r2, _, _, rfl, rfl, seqT s2 t1, t2, false, ne_false (padd_comm p q), ?_⟩
    refine ⟨.ref a1, rfl, .ref a2, rfl, a1, a2, p, q, 200, 200, rfl, e2.h1, e2.h2, by omega, by omega, bp, bq, by decide, by decide, by decide, fun H6 r3 s3 t3 => ?_⟩
    have e3 := e2.same s3
    refine ⟨.ref a2, rfl, .ref a1, rfl, a2, a1, q, p, 200, 200, rfl, e3.h2, e3.h1, by omega, by omega, bq, bp, by decide, by decide, by decide, fun H7 r4 s4 t4 => ?_⟩
    have e4 := e3.same s4
    refine ⟨r3, r4, _, _, rfl, rfl, seqT s4 t3, t4, false, ne_false (pmul_comm p q), ?_⟩
    clear s1 t1 s2 t2 s3 t3 s4 t4 e0 e1 e2 e3
    -- sums put together
    refine ⟨.ref a1, rfl, .ref a2, rfl, a1, a2, p, q, rfl, e4.h1, e4.h2, by omega, by omega, fun G1 r1 s1 t1 => ?_⟩
    have e1 := e4.same s1
    refine ⟨.ref a3, rfl, r1, a3, padd p q, t, rfl, t1, e1.h3, by omega, by omega, fun G2 r2 s2 t2 => ?_⟩
    have e2 := e1.same s2
    refine ⟨.ref a1, rfl, .ref a2, rfl, .ref a3, rfl, a2, a3, q, t, rfl, e2.h2, e2.h3, by omega, by omega, fun G3 r3 s3 t3 => ?_⟩
    have e3 := e2.same s3
    refine ⟨a1, r3, p, padd q t, rfl, e3.h1, t3, by omega, by omega, fun G4 r5 s5 t5 => ?_⟩
    have e5 := e3.same s5
    refine ⟨r2, r5, _, _, rfl, rfl, seqT (s3.trans s5) t2, t5, false, ne_false (padd_assoc p q t), ?_⟩
    clear s1 t1 s2 t2 s3 t3 s5 t5 e1 e2 e3 e4
    -- products put together
    refine ⟨.ref a1, rfl, .ref a2, rfl, a1, a2, p, q, 200, 200, rfl, e5.h1, e5.h2, by omega, by omega, bp, bq, by decide, by decide, by decide, fun G5 r1 s1 t1 => ?_⟩
    have e1 := e5.same s1
    refine ⟨.ref a3, rfl, r1, a3, pmul p q, t, 407, 200, rfl, t1, e1.h3, by omega, by omega, b12, bt, by decide, by decide, by decide, fun G6 r2 s2 t2 => ?_⟩
    have e2 := e1.same s2
    refine ⟨.ref a1, rfl, .ref a2, rfl, .ref a3, rfl, a2, a3, q, t, 200, 200, rfl, e2.h2, e2.h3, by omega, by omega, bq, bt, by decide, by decide, by decide, fun G7 r3 s3 t3 => ?_⟩
    have e3 := e2.same s3
    refine ⟨a1, r3, p, pmul q t, 200, 407, rfl, e3.h1, t3, by omega, by omega, bp, b21, by decide, by decide, by decide, fun G8 r6 s6 t6 => ?_⟩
    have e6 := e3.same s6
    refine ⟨r2, r6, _, _, rfl, rfl, seqT (s3.trans s6) t2, t6, false, ne_false (pmul_assoc p q t), ?_⟩
    clear s1 t1 s2 t2 s3 t3 s6 t6 e1 e2 e3 e5
    -- products over sums
    refine ⟨.ref a1, rfl, .ref a2, rfl, .ref a3, rfl, a2, a3, q, t, rfl, e6.h2, e6.h3, by omega, by omega, fun F1 r1 s1 t1 => ?_⟩
    have e1 := e6.same s1
    refine ⟨a1, r1, p, padd q t, 200, 201, rfl, e1.h1, t1, by omega, by omega, bp, bd_padd bq bt, by decide, by decide, by decide, fun F2 r2 s2 t2 => ?_⟩
    have e2 := e1.same s2
    refine ⟨.ref a1, rfl, .ref a2, rfl, a1, a2, p, q, 200, 200, rfl, e2.h1, e2.h2, by omega, by omega, bp, bq, by decide, by decide, by decide, fun F3 r3 s3 t3 => ?_⟩
    have e3 := e2.same s3
    refine ⟨.ref a1, rfl, .ref a3, rfl, a1, a3, p, t, 200, 200, rfl, e3.h1, e3.h3, by omega, by omega, bp, bt, by decide, by decide, by decide, fun F4 r4 s4 t4 => ?_⟩
    have e4 := e3.same s4
    refine ⟨r3, r4, pmul p q, pmul p t, rfl, seqT s4 t3, t4, by omega, by omega, fun F5 r7 s7 t7 => ?_⟩
    have e7 := e4.same s7
    refine ⟨r2, r7, _, _, rfl, rfl, seqT (s3.trans (s4.trans s7)) t2, t7, false, ne_false (pmul_padd p q t), ?_⟩
    clear s1 t1 s2 t2 s3 t3 s4 t4 s7 t7 e1 e2 e3 e4 e6
    -- differences
    refine ⟨.ref a1, rfl, .ref a2, rfl, a1, a2, p, q, rfl, e7.h1, e7.h2, by omega, by omega, fun D1 r1 s1 t1 => ?_⟩
    have e1 := e7.same s1
    refine ⟨.ref a2, rfl, r1, a2, psub p q, q, rfl, t1, e1.h2, by omega, by omega, fun D2 r2 s2 t2 => ?_⟩
    have e2 := e1.same s2
    refine ⟨.ref a1, rfl, r2, a1, _, _, rfl, rfl, t2, e2.h1, false, ne_false (psub_padd pp), ?_⟩
    refine ⟨.ref a1, rfl, .ref a1, rfl, a1, a1, p, p, rfl, e2.h1, e2.h1, by omega, by omega, fun D3 r3 s3 t3 => ?_⟩
    have e3 := e2.same s3
    refine ⟨Nat.zero_le _, fun o1 no1 => ?_⟩
    have s4 := same_upd (o := HO.tup []) no1
    have e4 := e3.same s4
    refine ⟨r3, o1, _, [], rfl, rfl, seqT s4 t3, sqT_of upd_same, false, ne_false (psub_self p), ?_⟩
    refine ⟨.ref a1, rfl, .ref a1, rfl, 1, rfl, a1, p, rfl, e4.h1, by omega, fun D4 r5 s5 t5 => ?_⟩
    have e5 := e4.same s5
    refine ⟨a1, r5, p, pscale p (-1), rfl, e5.h1, t5, by omega, by omega, fun D5 r6 s6 t6 => ?_⟩
    have e6 := e5.same s6
    refine ⟨Nat.zero_le _, fun o2 no2 => ?_⟩
    have s8 := same_upd (o := HO.tup []) no2
    have e8 := e6.same s8
    refine ⟨r6, o2, _, [], rfl, rfl, seqT s8 t6, sqT_of upd_same, false, ne_false (padd_neg p), ?_⟩
    clear s1 t1 s2 t2 s3 t3 s4 s5 t5 s6 t6 s8 e1 e2 e3 e4 e5 e6 e7
    -- degrees of products
    refine iteF ?_
    dsimp only [tNext, tSeq]
    refine ifS_key (fun key => ?main) ?key
    case main =>
      refine ⟨.ref a1, rfl, Nat.zero_le _, fun o3 no3 => ?_⟩
      have s1 := same_upd (o := HO.tup []) no3
      have e1 := e8.same s1
      refine ⟨a1, o3, p, [], rfl, rfl, e1.h1, sqT_of upd_same, _, rfl, ite2 (fun hp => ?_) (fun _ => iteF (key _ s1))⟩
      refine ⟨.ref a2, rfl, Nat.zero_le _, fun o4 no4 => ?_⟩
      have s2 := same_upd (o := HO.tup []) no4
      have e2 := e1.same s2
      refine ⟨a2, o4, q, [], rfl, rfl, e2.h2, sqT_of upd_same, _, rfl, ite2 (fun hq => ?_) (fun _ => iteF (key _ (s1.trans s2)))⟩
      have p0 : p ≠ [] := by simpa using hp
      have q0 : q ≠ [] := by simpa using hq
      have hd := pmul_len pp pq p0 q0
      refine ⟨.ref a1, rfl, .ref a2, rfl, a1, a2, p, q, 200, 200, rfl, e2.h1, e2.h2, by omega, by omega, bp, bq, by decide, by decide, by decide, fun M1 r1 s3 t1 => ?_⟩
      have e3 := e2.same s3
      exact ⟨r1, pmul p q, rfl, t1, .ref a1, rfl, a1, p, rfl, e3.h1, .ref a2, rfl, a2, q, rfl, e3.h2, _, _, rfl, rfl, rfl, false, neI (by omega), key _ (s1.trans (s2.trans s3))⟩
    case key =>
      intro C1 sC
      have e9 := e8.same sC
      -- degrees of sums, nought
      refine ⟨.ref a1, rfl, .ref a2, rfl, a1, a2, p, q, rfl, e9.h1, e9.h2, by omega, by omega, fun B1 r1 s1 t1 => ?_⟩
      have e1 := e9.same s1
      refine ⟨r1, padd p q, rfl, t1, .ref a1, rfl, a1, p, rfl, e1.h1, .ref a2, rfl, a2, q, rfl, e1.h2, _, _, rfl, _, _, rfl, rfl, false, congrArg V.bl (decide_eq_false ?_), ?_⟩
      · split <;> omega
      refine ⟨.ref a1, rfl, Nat.zero_le _, fun o3 no3 => ?_⟩
      have s2 := same_upd (o := HO.tup []) no3
      have e2 := e1.same s2
      refine ⟨a1, o3, p, [], 200, 1, rfl, e2.h1, sqT_of upd_same, by omega, Nat.zero_le _, bp, bd_nil, by decide, by decide, by decide, fun B2 r2 s3 t2 => ?_⟩
      have e3 := e2.same s3
      refine ⟨Nat.zero_le _, fun o4 no4 => ?_⟩
      have s4 := same_upd (o := HO.tup []) no4
      have e4 := e3.same s4
      refine ⟨r2, o4, _, [], rfl, rfl, seqT s4 t2, sqT_of upd_same, false, ne_false (pmul_nil p), ?_⟩
      clear s1 t1 s2 s3 t2 s4 e1 e2 e3 e8 e9 sC
      -- powers
      refine ⟨.ref a, rfl, a, ns, 3, rfl, e4.s, fun x => ⟨_, _, rfl, rfl, by show (0 : Int) < 4; decide, ?_⟩⟩
      refine ⟨.ref a, rfl, a, ns, 3, rfl, e4.s, fun y => ⟨_, _, rfl, rfl, ⟨by decide, by decide⟩, _, _, rfl, rfl, by show (0 : Int) < 4; decide, ?_⟩⟩
      obtain ⟨m, em, hm⟩ : ∃ m : Nat, x % 4 = (m : Int) ∧ m ≤ 3 := ⟨(x % 4).toNat, by omega, by omega⟩
      obtain ⟨l, el, hl⟩ : ∃ l : Nat, y / 4 % 4 = (l : Int) ∧ l ≤ 3 := ⟨(y / 4 % 4).toNat, by omega, by omega⟩
      have lm := len_ppow p m
      have ll := len_ppow p l
      have xm : m * p.length ≤ 3 * 7 := Nat.mul_le_mul hm lp
      have xl : l * p.length ≤ 3 * 7 := Nat.mul_le_mul hl lp
      refine ⟨.ref a1, rfl, .int (x % 4), rfl, a1, p, 200, m, congrArg (fun z : Int => [V.ref a1, V.int z]) em, e4.h1, lp, bp, by decide, by decide, by omega, fun A1 r1 s1 t1 => ?_⟩
      have e1 := e4.same s1
      refine ⟨.ref a1, rfl, .int (y / 4 % 4), rfl, a1, p, 200, l, congrArg (fun z : Int => [V.ref a1, V.int z]) el, e1.h1, lp, bp, by decide, by decide, by omega, fun A2 r2 s2 t2 => ?_⟩
      have e2 := e1.same s2
      refine ⟨r1, r2, ppow p m, ppow p l, _, _, rfl, seqT s2 t1, t2, by omega, by omega, bd_ppow bp lp m (by omega), bd_ppow bp lp l (by omega), by omega, by omega, by omega, fun A3 r3 s3 t3 => ?_⟩
      have e3 := e2.same s3
      refine ⟨.ref a1, rfl, .int (x % 4), rfl, .int (y / 4 % 4), rfl, _, _, rfl, rfl, a1, p, 200, m + l, congrArg (fun z : Int => [V.ref a1, V.int z]) (show x % 4 + y / 4 % 4 = ((m + l : Nat) : Int) by omega), e3.h1, lp, bp, by decide, by decide, by omega, fun A4 r4 s5 t5 => ?_⟩
      have e5 := e3.same s5
      refine ⟨r3, r4, _, _, rfl, rfl, seqT s5 t3, t5, true, eq_true (ppow_add p m l), ?_⟩
      refine ⟨.ref a1, rfl, by show 1 ≤ sizeLine; decide, fun o5 no5 => ?_⟩
      have s6 := same_upd (o := HO.tup [V.int 1]) no5
      have e6 := e5.same s6
      refine ⟨a1, o5, p, [1], 200, 1, rfl, e6.h1, sqT_of upd_same, by omega, by decide, bp, bd_one, by decide, by decide, by decide, fun A5 r5 s7 t7 => ?_⟩
      have e7 := e6.same s7
      refine ⟨.ref a1, rfl, r5, a1, _, _, rfl, rfl, t7, e7.h1, ?_⟩
      rw [pmul_one pp, decide_eq_true rfl]
      exact fin _
end
end K08

namespace K08
open PySem PySem.Spec PyProof.Rows L2
/-! ### what the top has written; the law's own head -/
theorem all_mk {l : PySem.W.OpenLaw} {w : World} {K : PySem.W.Frag} {h : Heap} {mg : Str → Option Value} {fa f1 f2 f3 f4 f5 f6 f7 f8 f9 f10 f11 f12 f13 f14 : Addr} (X : K.In h) (G : h.Ns mainGlobals mg) (hfa : mg "law" = some (.ref fa))
    {od1 an1 od2 an2 od3 an3 od4 an4 od5 an5 od6 an6 od7 an7 od8 an8 od9 an9 od10 an10 od11 an11 od12 an12 od13 an13 od14 an14 : Option Addr}
    {sl1 sl2 sl3 sl4 sl5 sl6 sl7 sl8 sl9 sl10 sl11 sl12 sl13 sl14 : Array (Option Value)}
    {oc1 kV1 dc1 pm1 cd1 ct1 oc2 kV2 dc2 pm2 cd2 ct2 oc3 kV3 dc3 pm3 cd3 ct3 oc4 kV4 dc4 pm4 cd4 ct4 oc5 kV5 dc5 pm5 cd5 ct5 oc6 kV6 dc6 pm6 cd6 ct6 oc7 kV7 dc7 pm7 cd7 ct7 oc8 kV8 dc8 pm8 cd8 ct8 oc9 kV9 dc9 pm9 cd9 ct9 oc10 kV10 dc10 pm10 cd10 ct10 oc11 kV11 dc11 pm11 cd11 ct11 oc12 kV12 dc12 pm12 cd12 ct12 oc13 kV13 dc13 pm13 cd13 ct13 oc14 kV14 dc14 pm14 cd14 ct14 : Value}
    (a1 : PySem.W.nsIn K mainGlobals "poly" = some (some (.ref f1))) (l1 : K.lookup f1 = some ⟨oc1, od1, .func (PySem.W.fnOf "poly" "poly" (defArgs sPoly) (defBody sPoly) (defScope sPoly) .none kV1 dc1 pm1 an1 cd1 ct1), sl1⟩) (c1 : PySem.W.codeIn K cd1 "poly" = true) (k1 : PySem.W.keepIn K (.ref f1) = true)
    (a2 : PySem.W.nsIn K mainGlobals "degree" = some (some (.ref f2))) (l2 : K.lookup f2 = some ⟨oc2, od2, .func (PySem.W.fnOf "degree" "degree" (defArgs sDegree) (defBody sDegree) (defScope sDegree) .none kV2 dc2 pm2 an2 cd2 ct2), sl2⟩) (c2 : PySem.W.codeIn K cd2 "degree" = true) (k2 : PySem.W.keepIn K (.ref f2) = true)
    (a3 : PySem.W.nsIn K mainGlobals "weight_of" = some (some (.ref f3))) (l3 : K.lookup f3 = some ⟨oc3, od3, .func (PySem.W.fnOf "weight_of" "weight_of" (defArgs sWeight) (defBody sWeight) (defScope sWeight) .none kV3 dc3 pm3 an3 cd3 ct3), sl3⟩) (c3 : PySem.W.codeIn K cd3 "weight_of" = true) (k3 : PySem.W.keepIn K (.ref f3) = true)
    (a4 : PySem.W.nsIn K mainGlobals "p_plus" = some (some (.ref f4))) (l4 : K.lookup f4 = some ⟨oc4, od4, .func (PySem.W.fnOf "p_plus" "p_plus" (defArgs sPlus) (defBody sPlus) (defScope sPlus) .none kV4 dc4 pm4 an4 cd4 ct4), sl4⟩) (c4 : PySem.W.codeIn K cd4 "p_plus" = true) (k4 : PySem.W.keepIn K (.ref f4) = true)
    (a5 : PySem.W.nsIn K mainGlobals "scaled" = some (some (.ref f5))) (l5 : K.lookup f5 = some ⟨oc5, od5, .func (PySem.W.fnOf "scaled" "scaled" (defArgs sScaled) (defBody sScaled) (defScope sScaled) .none kV5 dc5 pm5 an5 cd5 ct5), sl5⟩) (c5 : PySem.W.codeIn K cd5 "scaled" = true) (k5 : PySem.W.keepIn K (.ref f5) = true)
    (a6 : PySem.W.nsIn K mainGlobals "p_minus" = some (some (.ref f6))) (l6 : K.lookup f6 = some ⟨oc6, od6, .func (PySem.W.fnOf "p_minus" "p_minus" (defArgs sMinus) (defBody sMinus) (defScope sMinus) .none kV6 dc6 pm6 an6 cd6 ct6), sl6⟩) (c6 : PySem.W.codeIn K cd6 "p_minus" = true) (k6 : PySem.W.keepIn K (.ref f6) = true)
    (a7 : PySem.W.nsIn K mainGlobals "p_times" = some (some (.ref f7))) (l7 : K.lookup f7 = some ⟨oc7, od7, .func (PySem.W.fnOf "p_times" "p_times" (defArgs sTimes) (defBody sTimes) (defScope sTimes) .none kV7 dc7 pm7 an7 cd7 ct7), sl7⟩) (c7 : PySem.W.codeIn K cd7 "p_times" = true) (k7 : PySem.W.keepIn K (.ref f7) = true)
    (a8 : PySem.W.nsIn K mainGlobals "power" = some (some (.ref f8))) (l8 : K.lookup f8 = some ⟨oc8, od8, .func (PySem.W.fnOf "power" "power" (defArgs sPower) (defBody sPower) (defScope sPower) .none kV8 dc8 pm8 an8 cd8 ct8), sl8⟩) (c8 : PySem.W.codeIn K cd8 "power" = true) (k8 : PySem.W.keepIn K (.ref f8) = true)
    (a9 : PySem.W.nsIn K mainGlobals "_law_cell_at" = some (some (.ref f9))) (l9 : K.lookup f9 = some ⟨oc9, od9, .func (PySem.W.fnOf "_law_cell_at" "_law_cell_at" (defArgs sCell) (defBody sCell) (defScope sCell) .none kV9 dc9 pm9 an9 cd9 ct9), sl9⟩) (c9 : PySem.W.codeIn K cd9 "_law_cell_at" = true) (k9 : PySem.W.keepIn K (.ref f9) = true)
    (a10 : PySem.W.nsIn K mainGlobals "_law_mixed" = some (some (.ref f10))) (l10 : K.lookup f10 = some ⟨oc10, od10, .func (PySem.W.fnOf "_law_mixed" "_law_mixed" (defArgs sMixed) (defBody sMixed) (defScope sMixed) .none kV10 dc10 pm10 an10 cd10 ct10), sl10⟩) (c10 : PySem.W.codeIn K cd10 "_law_mixed" = true) (k10 : PySem.W.keepIn K (.ref f10) = true)
    (a11 : PySem.W.nsIn K mainGlobals "_law_weight" = some (some (.ref f11))) (l11 : K.lookup f11 = some ⟨oc11, od11, .func (PySem.W.fnOf "_law_weight" "_law_weight" (defArgs sLWeight) (defBody sLWeight) (defScope sLWeight) .none kV11 dc11 pm11 an11 cd11 ct11), sl11⟩) (c11 : PySem.W.codeIn K cd11 "_law_weight" = true) (k11 : PySem.W.keepIn K (.ref f11) = true)
    (a12 : PySem.W.nsIn K mainGlobals "_law_cut" = some (some (.ref f12))) (l12 : K.lookup f12 = some ⟨oc12, od12, .func (PySem.W.fnOf "_law_cut" "_law_cut" (defArgs sCut) (defBody sCut) (defScope sCut) .none kV12 dc12 pm12 an12 cd12 ct12), sl12⟩) (c12 : PySem.W.codeIn K cd12 "_law_cut" = true) (k12 : PySem.W.keepIn K (.ref f12) = true)
    (a13 : PySem.W.nsIn K mainGlobals "_law_poly" = some (some (.ref f13))) (l13 : K.lookup f13 = some ⟨oc13, od13, .func (PySem.W.fnOf "_law_poly" "_law_poly" (defArgs sLPoly) (defBody sLPoly) (defScope sLPoly) .none kV13 dc13 pm13 an13 cd13 ct13), sl13⟩) (c13 : PySem.W.codeIn K cd13 "_law_poly" = true) (k13 : PySem.W.keepIn K (.ref f13) = true)
    (a14 : PySem.W.nsIn K mainGlobals "law" = some (some (.ref f14))) (l14 : K.lookup f14 = some ⟨oc14, od14, .func (PySem.W.fnOf "law" "law" (defArgs sLaw) (defBody sLaw) (defScope sLaw) .none kV14 dc14 pm14 an14 cd14 ct14), sl14⟩) (c14 : PySem.W.codeIn K cd14 "law" = true) (k14 : PySem.W.keepIn K (.ref f14) = true)
    (z1 : PySem.W.nsIn K mainGlobals "len" = some none) (z2 : PySem.W.nsIn K mainGlobals "tuple" = some none) (z3 : PySem.W.nsIn K mainGlobals "max" = some none) (z4 : PySem.W.nsIn K mainGlobals "range" = some none) (z5 : PySem.W.nsIn K mainGlobals "enumerate" = some none) (z6 : PySem.W.nsIn K mainGlobals "list" = some none) :
    ∃ fd : FuncData, (∀ (s : Shared) (v : Value), BindsTo s fd ⟨[v], []⟩ [("_law_script", v)]) ∧ ∀ base : Heap, K.In base → base.Ns mainGlobals mg → FnOk l.prog w K mg base CX0 4 fa fd ["_law_script"] (spLaw K) := by
  have e := hfa.symm.trans (PySem.W.mg_of X G a14)
  cases e
  have F1 := fun_mk (st := sPoly) l1 c1 k1
  have g1 := PySem.W.mg_of X G a1
  have F2 := fun_mk (st := sDegree) l2 c2 k2
  have g2 := PySem.W.mg_of X G a2
  have F3 := fun_mk (st := sWeight) l3 c3 k3
  have g3 := PySem.W.mg_of X G a3
  have F4 := fun_mk (st := sPlus) l4 c4 k4
  have g4 := PySem.W.mg_of X G a4
  have F5 := fun_mk (st := sScaled) l5 c5 k5
  have g5 := PySem.W.mg_of X G a5
  have F6 := fun_mk (st := sMinus) l6 c6 k6
  have g6 := PySem.W.mg_of X G a6
  have F7 := fun_mk (st := sTimes) l7 c7 k7
  have g7 := PySem.W.mg_of X G a7
  have F8 := fun_mk (st := sPower) l8 c8 k8
  have g8 := PySem.W.mg_of X G a8
  have F9 := fun_mk (st := sCell) l9 c9 k9
  have g9 := PySem.W.mg_of X G a9
  have F10 := fun_mk (st := sMixed) l10 c10 k10
  have g10 := PySem.W.mg_of X G a10
  have F11 := fun_mk (st := sLWeight) l11 c11 k11
  have g11 := PySem.W.mg_of X G a11
  have F12 := fun_mk (st := sCut) l12 c12 k12
  have g12 := PySem.W.mg_of X G a12
  have F13 := fun_mk (st := sLPoly) l13 c13 k13
  have g13 := PySem.W.mg_of X G a13
  have F14 := fun_mk (st := sLaw) l14 c14 k14
  have m1 := PySem.W.mg_none_of X G z1
  have m2 := PySem.W.mg_none_of X G z2
  have m3 := PySem.W.mg_none_of X G z3
  have m4 := PySem.W.mg_none_of X G z4
  have m5 := PySem.W.mg_none_of X G z5
  have m6 := PySem.W.mg_none_of X G z6
  refine ⟨PySem.W.fnOf "law" "law" (defArgs sLaw) (defBody sLaw) (defScope sLaw) .none kV14 dc14 pm14 an14 cd14 ct14, fun s v => .of_eq rfl, fun base _ _ => ?_⟩
  · have C1 : Cb l.prog w K mg base 1 "poly" (spPoly K) := cb_poly F1 g1 m1 m2
    have C2 : Cb l.prog w K mg base 1 "degree" (spDegree K) := cb_degree F2 g2 m1
    have C3 : Cb l.prog w K mg base 1 "weight_of" (spWeight K) := cb_weight F3 g3 m1
    have C4 : Cb l.prog w K mg base 2 "p_plus" (spPlus K) := cb_plus F4 g4 m1 m3 m4 C1 C3
    have C5 : Cb l.prog w K mg base 2 "scaled" (spScaled K) := cb_scaled F5 g5 C1
    have C6 : Cb l.prog w K mg base 3 "p_minus" (spMinus K) := cb_minus F6 g6 C4 C5
    have C7 : Cb l.prog w K mg base 2 "p_times" (spTimes K) := cb_times F7 g7 m1 m5 C1
    have C8 : Cb l.prog w K mg base 3 "power" (spPower K) := cb_power F8 g8 m4 C7
    have C9 : Cb l.prog w K mg base 1 "_law_cell_at" (spCell K) := cb_cell F9 g9 m1
    have C10 : Cb l.prog w K mg base 1 "_law_mixed" spMixed := cb_mixed F10 g10
    have C11 : Cb l.prog w K mg base 2 "_law_weight" spLWeight := cb_lweight F11 g11 m4 C10
    have C12 : Cb l.prog w K mg base 1 "_law_cut" (spCut K) := cb_cut F12 g12 m6 m2
    have C13 : Cb l.prog w K mg base 3 "_law_poly" (spLPoly K) := cb_lpoly F13 g13 m4 C11 C12
    exact ok_law F14 m3 C9 C13 C4 C7 C6 C5 C2 C8
end K08
open PySem PySem.W PyProof.Rows
set_option maxHeartbeats 0 in
theorem PySem.Challenge.cw_rootcourt_k08_whole_ring_laws_holds : PySem.Challenge.rw_rootcourt_k08_whole_ring_laws.Holds := by
  w_on; o_law; k_head; (case hw => w_witness2)
  k_fill
  refine L2.walk_of (l := PySem.Challenge.rw_rootcourt_k08_whole_ring_laws) (n := 63) (k := 4) (x := "_law_script") (CX := fun _ => L2.CX0) (sp := fun w => K08.spLaw _) rfl (by decide) rfl ⟨rfl, by decide, by decide⟩ (fun w h Y => PySem.W.kIn_of Y) ?F (fun _ _ a ns hl _ hS => ⟨a, ns, rfl, hS, fun _ => rfl⟩) (fun _ _ _ _ _ h => h)
  case F =>
    intro w mg fa h KX G hmg
    refine' K08.all_mk KX G hmg ?a1 ?l1 ?c1 ?k1 ?a2 ?l2 ?c2 ?k2 ?a3 ?l3 ?c3 ?k3 ?a4 ?l4 ?c4 ?k4 ?a5 ?l5 ?c5 ?k5 ?a6 ?l6 ?c6 ?k6 ?a7 ?l7 ?c7 ?k7 ?a8 ?l8 ?c8 ?k8 ?a9 ?l9 ?c9 ?k9 ?a10 ?l10 ?c10 ?k10 ?a11 ?l11 ?c11 ?k11 ?a12 ?l12 ?c12 ?k12 ?a13 ?l13 ?c13 ?k13 ?a14 ?l14 ?c14 ?k14 ?z1 ?z2 ?z3 ?z4 ?z5 ?z6
    (case a1 => k_is); (case l1 => k_is); (case c1 => k_is); (case k1 => k_is); (case a2 => k_is); (case l2 => k_is); (case c2 => k_is); (case k2 => k_is)
    (case a3 => k_is); (case l3 => k_is); (case c3 => k_is); (case k3 => k_is); (case a4 => k_is); (case l4 => k_is); (case c4 => k_is); (case k4 => k_is)
    (case a5 => k_is); (case l5 => k_is); (case c5 => k_is); (case k5 => k_is); (case a6 => k_is); (case l6 => k_is); (case c6 => k_is); (case k6 => k_is)
    (case a7 => k_is); (case l7 => k_is); (case c7 => k_is); (case k7 => k_is); (case a8 => k_is); (case l8 => k_is); (case c8 => k_is); (case k8 => k_is)
    (case a9 => k_is); (case l9 => k_is); (case c9 => k_is); (case k9 => k_is); (case a10 => k_is); (case l10 => k_is); (case c10 => k_is); (case k10 => k_is)
    (case a11 => k_is); (case l11 => k_is); (case c11 => k_is); (case k11 => k_is); (case a12 => k_is); (case l12 => k_is); (case c12 => k_is); (case k12 => k_is)
    (case a13 => k_is); (case l13 => k_is); (case c13 => k_is); (case k13 => k_is); (case a14 => k_is); (case l14 => k_is); (case c14 => k_is); (case k14 => k_is)
    (case z1 => k_is); (case z2 => k_is); (case z3 => k_is); (case z4 => k_is); (case z5 => k_is); (case z6 => k_is)
