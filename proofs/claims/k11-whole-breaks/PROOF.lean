import PyProof.Rows.All
import HandS.Codes
import HandS.DictComp
import HandS.ForMost
import HandS.More
import HandS.Style
import HandS.Text
import HandS.Walk
import HandS.WideBits
import KE.KTupSum
import OpenK.AllK
import Wide.All
import Wide.FinOn
import PySem.Challenge.RW_offing_k11_whole_breaks_of_signatures
set_option Elab.async false
set_option linter.all false
set_option maxRecDepth 100000
set_option maxHeartbeats 3900000
/-! What the program and the law compute, as plain functions, and the law's mathematics. -/
namespace K11
open PySem

/-! ### digests -/
def rd (p : Int × Int) (l : Int) : Int × Int :=
  let a := (Builtin.bitXor p.1 l * 15241578750190521011) % 2 ^ 64
  let b := Builtin.bitXor a (a / 2 ^ 31)
  let c := ((p.2 + b) * 9764318250173649287) % 2 ^ 64
  let d := Builtin.bitXor c (c / 2 ^ 29)
  ((b + d) % 2 ^ 64, d)
def digs (n : Int) : List Int := if 0 < n then (n % 4294967296) :: digs (n / 4294967296) else []
termination_by n.toNat
decreasing_by omega
def lm (n : Int) : List Int := ((digs n).length : Int) :: digs n
def limbs (ns : List Int) : List Int := (ns.length : Int) :: ns.flatMap lm
def start2 : Int × Int := (7263541890216354987, 12985647301928374651)
def dig (w t : Int) (ns : List Int) : Int :=
  let r := (t :: limbs ns ++ [w, w]).foldl rd start2
  (r.1 * 2 ^ 64 + r.2) / 2 ^ (128 - w).toNat
def dig2 (w : Int) (x : Int × List Int) : Int := dig w x.1 x.2

theorem xor_lt {x y : Int} {k : Nat} (hx : 0 ≤ x) (hy : 0 ≤ y) (hx' : x < 2 ^ k) (hy' : y < 2 ^ k) : 0 ≤ Builtin.bitXor x y ∧ Builtin.bitXor x y < 2 ^ k := by
  rw [Bits.bitXor_pp hx hy]
  (refine ⟨Int.natCast_nonneg _, ?_⟩)
  have h1 : x.toNat < 2 ^ k := L2.nat_lt_pow (by rw [Int.toNat_of_nonneg hx]; exact hx')
  have h2 : y.toNat < 2 ^ k := L2.nat_lt_pow (by rw [Int.toNat_of_nonneg hy]; exact hy')
  have h3 := Nat.xor_lt_two_pow h1 h2
  have h4 : (((x.toNat ^^^ y.toNat : Nat) : Int)) < ((2 ^ k : Nat) : Int) := Int.ofNat_lt.mpr h3
  rw [PySem.W.kbt_cast] at h4
  exact h4
theorem p64 : (2 : Int) ^ 64 = 18446744073709551616 := by decide +kernel
theorem p32 : (2 : Int) ^ 32 = 4294967296 := by decide +kernel
theorem p31 : (2 : Int) ^ 31 = 2147483648 := by decide +kernel
theorem p29 : (2 : Int) ^ 29 = 536870912 := by decide +kernel
def Ok2 (p : Int × Int) : Prop := (0 ≤ p.1 ∧ p.1 < 2 ^ 64) ∧ (0 ≤ p.2 ∧ p.2 < 2 ^ 64)
theorem rd_ok (p : Int × Int) (l : Int) : Ok2 (rd p l) := by
  have hc : 0 ≤ ((p.2 + Builtin.bitXor ((Builtin.bitXor p.1 l * 15241578750190521011) % 2 ^ 64) ((Builtin.bitXor p.1 l * 15241578750190521011) % 2 ^ 64 / 2 ^ 31)) * 9764318250173649287) % 2 ^ 64 := by
    rw [p64]
    omega
  have hc' : ((p.2 + Builtin.bitXor ((Builtin.bitXor p.1 l * 15241578750190521011) % 2 ^ 64) ((Builtin.bitXor p.1 l * 15241578750190521011) % 2 ^ 64 / 2 ^ 31)) * 9764318250173649287) % 2 ^ 64 < 2 ^ 64 := by
    rw [p64]
    omega
  refine ⟨⟨?_, ?_⟩, ?_⟩
  · show 0 ≤ (_ + _) % 2 ^ 64
    rw [p64]
    omega
  · show (_ + _) % 2 ^ 64 < 2 ^ 64
    rw [p64]
    omega
  · show 0 ≤ Builtin.bitXor _ _ ∧ Builtin.bitXor _ _ < 2 ^ 64
    refine xor_lt hc ?_ hc' ?_
    · rw [p29]; omega
    · rw [p64] at hc' ⊢
      rw [p29]
      omega
theorem fold_ok : ∀ (ls : List Int) (p : Int × Int), Ok2 p → Ok2 (ls.foldl rd p)
  | [], _, h => h
  | l :: ls, p, _ => fold_ok ls (rd p l) (rd_ok p l)
theorem start2_ok : Ok2 start2 := by
  unfold Ok2 start2
  rw [p64]
  omega
theorem dig_nn (w t : Int) (ns : List Int) : 0 ≤ dig w t ns := by
  have h := fold_ok (t :: limbs ns ++ [w, w]) start2 start2_ok
  show 0 ≤ (_ * 2 ^ 64 + _) / 2 ^ (128 - w).toNat
  obtain ⟨⟨h1, h2⟩, h3, h4⟩ := h
  refine Int.ediv_nonneg ?_ (Int.le_of_lt (PySem.W.kbt_pos _))
  rw [p64]
  omega
theorem p128 : (2 : Int) ^ 128 = 340282366920938463463374607431768211456 := by decide +kernel
theorem dig_lt (w t : Int) (ns : List Int) : dig w t ns < 2 ^ 128 := by
  have h := fold_ok (t :: limbs ns ++ [w, w]) start2 start2_ok
  show (_ * 2 ^ 64 + _) / 2 ^ (128 - w).toNat < 2 ^ 128
  obtain ⟨⟨h1, h2⟩, h3, h4⟩ := h
  generalize (List.foldl rd start2 (t :: limbs ns ++ [w, w])).1 = x at *
  generalize (List.foldl rd start2 (t :: limbs ns ++ [w, w])).2 = y at *
  have k : (x * 2 ^ 64 + y) / 2 ^ (128 - w).toNat ≤ x * 2 ^ 64 + y := Int.ediv_le_self _ (by rw [p64]; omega)
  refine Int.lt_of_le_of_lt k ?_
  clear k
  rw [p64] at *
  rw [p128]
  omega
theorem digs_len : ∀ (k : Nat) (n : Int), n.toNat < 4294967296 ^ k → (digs n).length ≤ k
  | 0, n, h => by
    rw [Nat.pow_zero] at h
    rw [digs, if_neg (by omega)]
    exact Nat.le_refl _
  | k + 1, n, h => by
    rw [Nat.pow_succ] at h
    rw [digs]
    split
    · rw [List.length_cons]
      refine Nat.succ_le_succ (digs_len k _ ?_)
      generalize 4294967296 ^ k = A at *
      omega
    · exact Nat.zero_le _
theorem q128 : (4294967296 : Nat) ^ 4 = 340282366920938463463374607431768211456 := by decide +kernel
theorem digs_len4 {n : Int} (h : n < 2 ^ 128) : (digs n).length ≤ 4 := by
  rw [p128] at h
  refine digs_len 4 n ?_
  rw [q128]
  omega
/-- numbers that a digest may be made of here -/
def Sm (ns : List Int) : Prop := ns.length ≤ 100 ∧ ∀ n ∈ ns, n < 2 ^ 128
theorem flat_len : ∀ ns : List Int, (∀ n ∈ ns, n < 2 ^ 128) → (ns.flatMap lm).length ≤ 5 * ns.length
  | [], _ => Nat.zero_le _
  | n :: ns, h => by
    have a := digs_len4 (h n List.mem_cons_self)
    have b := flat_len ns fun m hm => h m (List.mem_cons_of_mem _ hm)
    rw [List.flatMap_cons, List.length_append, List.length_cons]
    show (digs n).length + 1 + _ ≤ _
    omega
theorem limbs_len {ns : List Int} (h : Sm ns) : (limbs ns).length ≤ 501 := by
  have a := flat_len ns h.2
  have b := h.1
  show (ns.flatMap lm).length + 1 ≤ 501
  omega

/-! ### digits -/
def cnt (w : Int) : Nat := ((w + 3) / 4).toNat
def chk (w : Int) : Nat := if cnt w ≤ 1 then 1 else 2
def nch (w : Int) : Nat := cnt w + chk w
def bd (w m : Int) : List Int := (List.range (cnt w)).map fun k => m / 2 ^ (4 * k) % 16
def rs (w m : Int) : Int := ((bd w m).map fun d => 15 - d).sum
def cd (w m : Int) : List Int := (List.range (chk w)).map fun k => rs w m / 2 ^ (4 * k) % 16
def digits (w m : Int) : List Int := bd w m ++ cd w m
def dgt (w m : Int) (k : Nat) : Int := (digits w m).getD k 0
structure Wd (w : Int) : Prop where
  lo : 4 ≤ w
  hi : w ≤ 16
theorem Wd.cnt {w : Int} (h : Wd w) : 1 ≤ cnt w ∧ cnt w ≤ 4 ∧ w ≤ 4 * cnt w := by
  have := h.lo
  have := h.hi
  unfold K11.cnt
  omega
theorem Wd.chk {w : Int} (_ : Wd w) : 1 ≤ chk w ∧ chk w ≤ 2 := by
  unfold K11.chk
  split <;> omega
theorem Wd.nch {w : Int} (h : Wd w) : 2 ≤ nch w ∧ nch w ≤ 6 := by
  have a := h.cnt
  have b := h.chk
  unfold K11.nch
  omega
theorem bd_len (w m : Int) : (bd w m).length = cnt w := by simp [bd]
theorem cd_len (w m : Int) : (cd w m).length = chk w := by simp [cd]
theorem digits_len (w m : Int) : (digits w m).length = nch w := by
  unfold digits nch
  rw [List.length_append, bd_len, cd_len]
theorem digits_mem {w m d : Int} (h : d ∈ digits w m) : 0 ≤ d ∧ d ≤ 15 := by
  unfold digits at h
  (rcases List.mem_append.mp h with h | h)
  · obtain ⟨k, _, e⟩ := List.mem_map.mp h
    omega
  · obtain ⟨k, _, e⟩ := List.mem_map.mp h
    omega
theorem dgt_mem {w m : Int} {k : Nat} (h : k < nch w) : (digits w m)[k]? = some (dgt w m k) := by
  have h' : k < (digits w m).length := by rw [digits_len]; exact h
  unfold dgt
  rw [List.getD_eq_getElem?_getD, List.getElem?_eq_getElem h']
  rfl
theorem dgt_le {w m : Int} (k : Nat) : 0 ≤ dgt w m k ∧ dgt w m k ≤ 15 := by
  by_cases h : k < nch w
  · exact digits_mem (List.mem_of_getElem? (dgt_mem h))
  · unfold dgt
    rw [List.getD_eq_getElem?_getD, List.getElem?_eq_none (by rw [digits_len]; omega)]
    exact ⟨Int.le_refl _, by decide⟩
theorem dgt_bd {w m : Int} {k : Nat} (h : k < cnt w) : dgt w m k = m / 2 ^ (4 * k) % 16 := by
  unfold dgt digits
  rw [List.getD_eq_getElem?_getD, List.getElem?_append_left (by rw [bd_len]; exact h)]
  simp [bd, h]
theorem dgt_cd {w m : Int} {k : Nat} (h : k < chk w) : dgt w m (cnt w + k) = rs w m / 2 ^ (4 * k) % 16 := by
  unfold dgt digits
  rw [List.getD_eq_getElem?_getD, List.getElem?_append_right (by rw [bd_len]; omega), bd_len]
  simp [cd, h]
theorem back4 {m : Int} (h0 : 0 ≤ m) (h1 : m < 65536) : m = m % 16 + 16 * (m / 16 % 16) + 256 * (m / 256 % 16) + 4096 * (m / 4096 % 16) := by omega
theorem two_le {r r' : Int} (h0 : 0 ≤ r) (h1 : r < 256) (h0' : 0 ≤ r') (h1' : r' < 256) (a : r' % 16 ≤ r % 16) (b : r' / 16 % 16 ≤ r / 16 % 16) : r' ≤ r := by omega
theorem core4 {a0 a1 a2 a3 b0 b1 b2 b3 n : Int} (hn : 0 ≤ n) (hn4 : n ≤ 60) (l0 : b0 ≤ a0) (l1 : b1 ≤ a1) (l2 : b2 ≤ a2) (l3 : b3 ≤ a3) (r0 : 0 ≤ n - (a0 + a1 + a2 + a3)) (r1 : n - (b0 + b1 + b2 + b3) ≤ n)
    (x0 : (n - (b0 + b1 + b2 + b3)) % 16 ≤ (n - (a0 + a1 + a2 + a3)) % 16) (x1 : (n - (b0 + b1 + b2 + b3)) / 16 % 16 ≤ (n - (a0 + a1 + a2 + a3)) / 16 % 16) : a0 = b0 ∧ a1 = b1 ∧ a2 = b2 ∧ a3 = b3 := by
  have := two_le r0 (by omega) (by omega) (by omega) x0 x1
  omega
theorem digits_lt {w m m' : Int} (hw : Wd w) (h0 : 0 ≤ m) (h1 : m < 2 ^ w.toNat) (h0' : 0 ≤ m') (h1' : m' < 2 ^ w.toNat) (hne : m ≠ m') : ∃ k, k < nch w ∧ dgt w m k < dgt w m' k := by
  refine Classical.byContradiction fun hno => ?_
  have hall : ∀ k, k < nch w → dgt w m' k ≤ dgt w m k := fun k hk => by
    refine Classical.byContradiction fun z => hno ⟨k, hk, by omega⟩
  obtain ⟨c1, c2, c3⟩ := hw.cnt
  have up : (2 : Int) ^ w.toNat ≤ 2 ^ (4 * cnt w) := by
    have := Nat.pow_le_pow_right (n := 2) (by decide) (show w.toNat ≤ 4 * cnt w by omega)
    have q := Int.ofNat_le.mpr this
    rw [PySem.W.kbt_cast, PySem.W.kbt_cast] at q
    exact q
  have b1 : ∀ k, k < cnt w → m' / 2 ^ (4 * k) % 16 ≤ m / 2 ^ (4 * k) % 16 := fun k hk => by
    have := hall k (by unfold nch; omega)
    rw [dgt_bd hk, dgt_bd hk] at this
    exact this
  have b2 : ∀ k, k < chk w → rs w m' / 2 ^ (4 * k) % 16 ≤ rs w m / 2 ^ (4 * k) % 16 := fun k hk => by
    have := hall (cnt w + k) (by unfold nch; omega)
    rw [dgt_cd hk, dgt_cd hk] at this
    exact this
  have r1 : ∀ x, rs w x = (((List.range (cnt w)).map fun k => x / 2 ^ (4 * k) % 16).map fun d => 15 - d).sum := fun _ => rfl
  have e2 : chk w = if cnt w ≤ 1 then 1 else 2 := rfl
  rw [e2] at b2
  have h1 := Int.lt_of_lt_of_le h1 up
  have h1' := Int.lt_of_lt_of_le h1' up
  have q0 : (2 : Int) ^ (4 * 0) = 1 := by decide
  have q1 : (2 : Int) ^ (4 * 1) = 16 := by decide
  have q2 : (2 : Int) ^ (4 * 2) = 256 := by decide
  have q3 : (2 : Int) ^ (4 * 3) = 4096 := by decide
  have q4 : (2 : Int) ^ (4 * 4) = 65536 := by decide
  have s1 : ∀ x, rs w x = (((List.range (cnt w)).map fun k => x / 2 ^ (4 * k) % 16).map fun d => 15 - d).sum := fun _ => rfl
  rw [s1 m, s1 m'] at b2
  clear s1 r1 e2 hno hall up hw c3
  generalize cnt w = c at *
  have am : m < 65536 → _ := fun z => back4 h0 (m := m) z
  have am' : m' < 65536 → _ := fun z => back4 h0' (m := m') z
  have t : ∀ x : Int, 0 ≤ x % 16 ∧ x % 16 ≤ 15 := fun x => by omega
  have ta := fun k => t (m / k)
  have tb := fun k => t (m' / k)
  have t0 := t m
  have t0' := t m'
  rcases (show c = 1 ∨ c = 2 ∨ c = 3 ∨ c = 4 by omega) with rfl | rfl | rfl | rfl
  · have a0 := b1 0 (by decide)
    rw [q1] at h1 h1'
    rw [q0] at a0
    rw [Int.ediv_one, Int.ediv_one] at a0
    have z0 := b2 0 (by decide)
    have e : ∀ x : Int, (((List.range 1).map fun k => x / 2 ^ (4 * k) % 16).map fun d => 15 - d).sum = 15 - x % 16 := fun x => by
      simp only [List.range, List.range.loop, List.map_cons, List.map_nil, List.sum_cons, List.sum_nil, q0, Int.ediv_one]
      omega
    rw [e m, e m', q0, Int.ediv_one, Int.ediv_one] at z0
    clear ta tb am am' b1 b2 e
    omega
  · have a0 := b1 0 (by decide)
    have a1 := b1 1 (by decide)
    have z0 := b2 0 (by decide)
    have z1 := b2 1 (by decide)
    have e : ∀ x : Int, (((List.range 2).map fun k => x / 2 ^ (4 * k) % 16).map fun d => 15 - d).sum = 30 - (x % 16 + x / 16 % 16 + 0 + 0) := fun x => by
      simp only [List.range, List.range.loop, List.map_cons, List.map_nil, List.sum_cons, List.sum_nil, q0, q1, Int.ediv_one]
      omega
    rw [e m, e m'] at z0 z1
    rw [q0, Int.ediv_one, Int.ediv_one] at a0 z0
    rw [q1] at a1 z1
    rw [q2] at h1 h1'
    have := ta 16
    have := tb 16
    have k := core4 (by decide) (by decide) a0 a1 (Int.le_refl 0) (Int.le_refl 0) (by omega) (by omega) z0 z1
    omega
  · have a0 := b1 0 (by decide)
    have a1 := b1 1 (by decide)
    have a2 := b1 2 (by decide)
    have z0 := b2 0 (by decide)
    have z1 := b2 1 (by decide)
    have e : ∀ x : Int, (((List.range 3).map fun k => x / 2 ^ (4 * k) % 16).map fun d => 15 - d).sum = 45 - (x % 16 + x / 16 % 16 + x / 256 % 16 + 0) := fun x => by
      simp only [List.range, List.range.loop, List.map_cons, List.map_nil, List.sum_cons, List.sum_nil, q0, q1, q2, Int.ediv_one]
      omega
    rw [e m, e m'] at z0 z1
    rw [q0, Int.ediv_one, Int.ediv_one] at a0 z0
    rw [q1] at a1 z1
    rw [q2] at a2
    rw [q3] at h1 h1'
    have := ta 16
    have := tb 16
    have := ta 256
    have := tb 256
    have k := core4 (by decide) (by decide) a0 a1 a2 (Int.le_refl 0) (by omega) (by omega) z0 z1
    have := am (by omega)
    have := am' (by omega)
    omega
  · have a0 := b1 0 (by decide)
    have a1 := b1 1 (by decide)
    have a2 := b1 2 (by decide)
    have a3 := b1 3 (by decide)
    have z0 := b2 0 (by decide)
    have z1 := b2 1 (by decide)
    have e : ∀ x : Int, (((List.range 4).map fun k => x / 2 ^ (4 * k) % 16).map fun d => 15 - d).sum = 60 - (x % 16 + x / 16 % 16 + x / 256 % 16 + x / 4096 % 16) := fun x => by
      simp only [List.range, List.range.loop, List.map_cons, List.map_nil, List.sum_cons, List.sum_nil, q0, q1, q2, q3, Int.ediv_one]
      omega
    rw [e m, e m'] at z0 z1
    rw [q0, Int.ediv_one, Int.ediv_one] at a0 z0
    rw [q1] at a1 z1
    rw [q2] at a2
    rw [q3] at a3
    rw [q4] at h1 h1'
    have := ta 16
    have := tb 16
    have := ta 256
    have := tb 256
    have := ta 4096
    have := tb 4096
    have k := core4 (by decide) (by decide) a0 a1 a2 a3 (by omega) (by omega) z0 z1
    have := am (by omega)
    have := am' (by omega)
    omega
end K11
namespace K11
/-! ### chains, keys, tree -/
def wk (w i c a x : Int) : Nat → Int
  | 0 => x
  | k + 1 => dig w 4 [i, c, a + k, wk w i c a x k]
def w0 (w s i c : Int) : Int := dig w 7 [s, i, c]
def wd (w s i c : Int) (t : Nat) : Int := wk w i c 0 (w0 w s i c) t
def chainL (w s i c : Int) : List Int := (List.range 16).map (wd w s i c)
def keyL (w s i : Int) : List (List Int) := (List.range (nch w)).map fun (c : Nat) => chainL w s i c
def keysL (w s : Int) (L : Nat) : List (List (List Int)) := (List.range (2 ^ L)).map fun (i : Nat) => keyL w s i
def topsL (w s i : Int) : List Int := (List.range (nch w)).map fun (c : Nat) => wd w s i c 15
def row (w s : Int) : Nat → Nat → Int
  | 0, j => dig w 5 ((j : Int) :: topsL w s j)
  | l + 1, j => dig w 6 [(l : Int), row w s l (2 * j), row w s l (2 * j + 1)]
def rowL (w s : Int) (L l : Nat) : List Int := (List.range (2 ^ (L - l))).map (row w s l)
def rowsL (w s : Int) (L : Nat) : List (List Int) := (List.range (L + 1)).map (rowL w s L)
def pub (w s : Int) (L : Nat) : Int := dig w 6 [(L : Int), row w s L 0]
/-! ### signatures -/
def sx (sg : List Int) (k : Nat) : Int := sg.getD k 0
def topsS (w i m : Int) (sg : List Int) : List Int := (List.range (nch w)).map fun (k : Nat) => wk w i k (dgt w m k) (sx sg (1 + k)) (15 - dgt w m k).toNat
def nd (w i m : Int) (sg : List Int) : Nat → Int × List Int
  | 0 => (5, i :: topsS w i m sg)
  | l + 1 => (6, if i / 2 ^ l % 2 = 0 then [(l : Int), dig2 w (nd w i m sg l), sx sg (1 + nch w + l)] else [(l : Int), sx sg (1 + nch w + l), dig2 w (nd w i m sg l)])
def Ls (w : Int) (sg : List Int) : Nat := sg.length - 1 - nch w
def told (w m : Int) (sg : List Int) : List (Int × List Int) := (List.range (Ls w sg + 1)).map (nd w (sx sg 0) m sg) ++ [(6, [(Ls w sg : Int), dig2 w (nd w (sx sg 0) m sg (Ls w sg))])]
def tn (w s i : Int) : Nat → Int × List Int
  | 0 => (5, i :: topsL w s i)
  | l + 1 => (6, [(l : Int), row w s l (2 * (i / 2 ^ (l + 1)).toNat), row w s l (2 * (i / 2 ^ (l + 1)).toNat + 1)])
def tru (w s : Int) (L : Nat) (i : Int) : List (Int × List Int) := (List.range (L + 1)).map (tn w s i) ++ [(6, [(L : Int), row w s L 0])]
def lv (w : Int) (sg : List Int) : Int := (sg.length : Int) - 1 - nch w
def shapeOk (w : Int) (sg : List Int) : Bool := decide (0 ≤ lv w sg ∧ lv w sg ≤ 6) && (decide (0 ≤ sx sg 0 ∧ sx sg 0 < 2 ^ (lv w sg).toNat) && (sg.drop 1).all fun x => decide (0 ≤ x ∧ x < 2 ^ w.toNat))
def lastD (w m : Int) (sg : List Int) : Int := dig w 6 [(Ls w sg : Int), dig2 w (nd w (sx sg 0) m sg (Ls w sg))]
def validB (w s : Int) (L : Nat) (m : Int) (sg : List Int) : Bool := shapeOk w sg && decide (lastD w m sg = pub w s L)
/-! ### breaks -/
inductive Ans where
  | non
  | coll (a b : Int × List Int)
  | found (i k d x : Int)
def firstD {α : Type} [DecidableEq α] : List α → List α → Option (α × α)
  | a :: as, b :: bs => if a = b then firstD as bs else some (a, b)
  | _, _ => none
def meet (w s i c d x : Int) : Ans :=
  match (List.range (15 - d).toNat).find? (fun (k : Nat) => decide (wk w i c d x (k + 1) = wd w s i c (d.toNat + k + 1))) with
  | some k => .coll (4, [i, c, d + k, wd w s i c (d.toNat + k)]) (4, [i, c, d + k, wk w i c d x k])
  | none => .non
def given (w : Int) (sd : List (Int × Int)) (i : Int) (k : Nat) : Int := match sd.lookup i with
  | some m' => dgt w m' k
  | none => 16
def chb (w s : Int) (sd : List (Int × Int)) (m : Int) (sg : List Int) : Ans :=
  match (List.range (nch w)).find? (fun (c : Nat) => decide (sx sg (1 + c) ≠ wd w s (sx sg 0) c (dgt w m c).toNat)) with
  | some c => meet w s (sx sg 0) c (dgt w m c) (sx sg (1 + c))
  | none => match (List.range (nch w)).find? (fun (c : Nat) => decide (dgt w m c < given w sd (sx sg 0) c)) with
    | some c => .found (sx sg 0) c (dgt w m c) (sx sg (1 + c))
    | none => .non
def mn (sg : List Int) (L : Nat) : Int := if (2 : Int) ^ L - 1 < sx sg 0 then 2 ^ L - 1 else sx sg 0
def due (w s : Int) (L : Nat) (sd : List (Int × Int)) (m : Int) (sg : List Int) : Ans :=
  match firstD (told w m sg).reverse (tru w s L (mn sg L)).reverse with
  | some (t, u) => .coll u t
  | none => chb w s sd m sg

/-! ### facts -/
theorem find_some {p : Nat → Bool} : ∀ {n k : Nat}, k < n → p k = true → (∀ j, j < k → p j = false) → (List.range n).find? p = some k := by
  intro n
  induction n with
  | zero => intro k h; omega
  | succ n ih =>
    intro k h hk hb
    rw [List.range_succ, List.find?_append]
    by_cases e : k < n
    · rw [ih e hk hb]; rfl
    · have e2 : k = n := by omega
      subst e2
      rw [List.find?_eq_none.mpr (fun x hx => by rw [hb x (List.mem_range.mp hx)]; exact Bool.false_ne_true)]
      simp [hk]
theorem find_none {p : Nat → Bool} {n : Nat} (h : ∀ j, j < n → p j = false) : (List.range n).find? p = none :=
  List.find?_eq_none.mpr fun x hx => by rw [h x (List.mem_range.mp hx)]; exact Bool.false_ne_true
theorem find_is {p : Nat → Bool} {n k : Nat} (h : (List.range n).find? p = some k) : k < n ∧ p k = true ∧ ∀ j, j < k → p j = false := by
  have h1 := List.find?_some h
  have h2 := List.mem_range.mp (List.mem_of_find?_eq_some h)
  refine ⟨h2, h1, fun j hj => ?_⟩
  cases e : p j with
  | false => rfl
  | true =>
    -- the least one
    have : ∃ i, i ≤ j ∧ p i = true ∧ ∀ l, l < i → p l = false := by
      clear h hj h1 h2
      induction j using Nat.strongRecOn with
      | _ j ih =>
        by_cases q : ∃ l, l < j ∧ p l = true
        · obtain ⟨l, hl, pl⟩ := q
          obtain ⟨i, hi, r⟩ := ih l hl pl
          exact ⟨i, by omega, r⟩
        · refine ⟨j, Nat.le_refl _, e, fun l hl => ?_⟩
          cases z : p l with
          | false => rfl
          | true => exact absurd ⟨l, hl, z⟩ q
    obtain ⟨i, hi, pi, r⟩ := this
    have q := find_some (n := n) (k := i) (by omega) pi r
    rw [h] at q
    injection q with q
    omega
theorem firstD_some {α : Type} [DecidableEq α] : ∀ {as bs : List α} {k : Nat} {a b : α}, (∀ j, j < k → as[j]? = bs[j]?) → as[k]? = some a → bs[k]? = some b → a ≠ b → firstD as bs = some (a, b)
  | [], _, _, _, _, _, h, _, _ => by simp at h
  | _ :: _, [], _, _, _, _, _, h, _ => by simp at h
  | x :: as, y :: bs, 0, a, b, _, h1, h2, hn => by
    simp at h1 h2
    subst h1 h2
    simp [firstD, hn]
  | x :: as, y :: bs, k + 1, a, b, hb, h1, h2, hn => by
    have e := hb 0 (by omega)
    simp at e h1 h2
    subst e
    unfold firstD
    rw [if_pos rfl]
    exact firstD_some (k := k) (fun j hj => by simpa using hb (j + 1) (by omega)) h1 h2 hn
theorem firstD_none {α : Type} [DecidableEq α] : ∀ {as bs : List α}, (∀ j, j < min as.length bs.length → as[j]? = bs[j]?) → firstD as bs = none
  | [], _, _ => by unfold firstD; rfl
  | _ :: _, [], _ => by unfold firstD; rfl
  | x :: as, y :: bs, hb => by
    have e := hb 0 (by simp)
    simp at e
    subst e
    unfold firstD
    rw [if_pos rfl]
    exact firstD_none fun j hj => by simpa using hb (j + 1) (by simp; omega)
theorem wk_add (w i c a x : Int) (j : Nat) : ∀ k : Nat, wk w i c (a + j) (wk w i c a x j) k = wk w i c a x (j + k)
  | 0 => rfl
  | k + 1 => by
    show dig w 4 [i, c, a + j + k, wk w i c (a + j) (wk w i c a x j) k] = dig w 4 [i, c, a + ((j + k : Nat) : Int), wk w i c a x (j + k)]
    rw [wk_add w i c a x j k, Int.natCast_add, Int.add_assoc]
theorem wd_add (w s i c : Int) (j k : Nat) : wk w i c j (wd w s i c j) k = wd w s i c (j + k) := by
  have := wk_add w i c 0 (w0 w s i c) j k
  rw [Int.zero_add] at this
  exact this
/-- the merged chains, as the program walks them -/
theorem wd_dig (w s i c : Int) (t : Nat) : wd w s i c (t + 1) = dig w 4 [i, c, (t : Int), wd w s i c t] := by
  show dig w 4 [i, c, 0 + (t : Int), _] = _
  rw [Int.zero_add]
  rfl
/-- a number of moderate size -/
def Nn (n : Int) : Prop := 0 ≤ n ∧ n < 2 ^ 128
theorem Nn.dig (w t : Int) (ns : List Int) : Nn (dig w t ns) := ⟨dig_nn _ _ _, dig_lt _ _ _⟩
theorem Nn.of {n : Int} (h0 : 0 ≤ n) (h1 : n < 1267650600228229401496703205377) : Nn n := ⟨h0, by rw [p128]; omega⟩
theorem nn_wd (w s i c : Int) (t : Nat) : Nn (wd w s i c t) := by
  cases t with
  | zero => exact .dig _ _ _
  | succ t => exact .dig _ _ _
theorem nn_wk {w i c a x : Int} (h : Nn x) (t : Nat) : Nn (wk w i c a x t) := by
  cases t with
  | zero => exact h
  | succ t => exact .dig _ _ _
theorem nn_row (w s : Int) (l j : Nat) : Nn (row w s l j) := by
  cases l with
  | zero => exact .dig _ _ _
  | succ l => exact .dig _ _ _
/-- what the kit's check asks of an input -/
def Inp (x : Int × List Int) : Prop := (0 ≤ x.1 ∧ x.1 < 16) ∧ x.2.length ≤ 100 ∧ ∀ n ∈ x.2, Nn n
def RealC (w : Int) (a b : Int × List Int) : Prop := dig2 w a = dig2 w b ∧ a ≠ b ∧ Inp a ∧ Inp b
structure Valid (w s : Int) (L : Nat) (m : Int) (sg : List Int) : Prop where
  lv0 : 0 ≤ lv w sg
  lv6 : lv w sg ≤ 6
  ix0 : 0 ≤ sx sg 0
  ix1 : sx sg 0 < 2 ^ (Ls w sg)
  word : ∀ x ∈ sg.drop 1, 0 ≤ x ∧ x < 2 ^ w.toNat
  last : lastD w m sg = pub w s L
theorem Ls_lv {w : Int} {sg : List Int} (h : 0 ≤ lv w sg) : (lv w sg).toNat = Ls w sg := by
  unfold lv at *
  unfold Ls
  omega
theorem Valid.of {w s : Int} {L : Nat} {m : Int} {sg : List Int} (h : validB w s L m sg = true) : Valid w s L m sg := by
  unfold validB shapeOk at h
  simp only [Bool.and_eq_true, decide_eq_true_eq, List.all_eq_true] at h
  obtain ⟨⟨⟨a, b⟩, ⟨c, d⟩, e⟩, f⟩ := h
  rw [Ls_lv a] at d
  exact ⟨a, b, c, d, e, f⟩
theorem two16 {w : Int} (hw : Wd w) : (2 : Int) ^ w.toNat ≤ 65536 := by
  have h := hw.hi
  have q := Int.ofNat_le.mpr (Nat.pow_le_pow_right (n := 2) (by decide) (show w.toNat ≤ 16 by omega))
  rw [PySem.W.kbt_cast, PySem.W.kbt_cast] at q
  exact q
theorem Valid.Ls6 {w s : Int} {L : Nat} {m : Int} {sg : List Int} (v : Valid w s L m sg) : Ls w sg ≤ 6 := by
  have a := Ls_lv v.lv0
  have b := v.lv6
  omega
theorem sx_at {sg : List Int} {k : Nat} (h : k < sg.length) : sg[k]? = some (sx sg k) := by
  unfold sx
  rw [List.getD_eq_getElem?_getD, List.getElem?_eq_getElem h]
  rfl
theorem sx_word {w : Int} {sg : List Int} (h : ∀ x ∈ sg.drop 1, 0 ≤ x ∧ x < 2 ^ w.toNat) (hw : Wd w) (k : Nat) : 0 ≤ sx sg (k + 1) ∧ sx sg (k + 1) < 65536 := by
  unfold sx
  (rw [List.getD_eq_getElem?_getD])
  cases e : sg[k + 1]? with
  | none => exact ⟨Int.le_refl _, by decide⟩
  | some x =>
    have z := h x (List.mem_of_getElem? (i := k) (by rw [List.getElem?_drop, Nat.add_comm]; exact e))
    have t := two16 hw
    exact ⟨z.1, Int.lt_of_lt_of_le z.2 t⟩
theorem sx_nn {w s : Int} {L : Nat} {m : Int} {sg : List Int} (hw : Wd w) (v : Valid w s L m sg) (k : Nat) : Nn (sx sg (k + 1)) := by
  have z := sx_word v.word hw k
  exact .of z.1 (by omega)
theorem Valid.ix64 {w s : Int} {L : Nat} {m : Int} {sg : List Int} (v : Valid w s L m sg) : sx sg 0 < 64 := by
  have a := v.Ls6
  have b := v.ix1
  have q := Int.ofNat_le.mpr (Nat.pow_le_pow_right (n := 2) (by decide) a)
  rw [PySem.W.kbt_cast, PySem.W.kbt_cast] at q
  have e : (2 : Int) ^ 6 = 64 := by decide
  omega
theorem half2 (i : Int) (l : Nat) : i / 2 ^ (l + 1) = i / 2 ^ l / 2 := by
  rw [Int.pow_succ, Int.ediv_ediv_of_nonneg (Int.le_of_lt (PySem.W.kbt_pos l))]
theorem dig_tn {w s i : Int} (hi : 0 ≤ i) : ∀ l : Nat, dig2 w (tn w s i l) = row w s l (i / 2 ^ l).toNat
  | 0 => by
    have e : (i / 2 ^ 0).toNat = i.toNat := by rw [Int.pow_zero, Int.ediv_one]
    rw [e]
    show dig w 5 (i :: topsL w s i) = dig w 5 ((i.toNat : Int) :: topsL w s (i.toNat : Int))
    rw [Int.toNat_of_nonneg hi]
  | l + 1 => rfl
theorem step_up {w s m i : Int} {sg : List Int} {l : Nat} (hi : 0 ≤ i) (h : nd w i m sg (l + 1) = tn w s i (l + 1)) : dig2 w (nd w i m sg l) = dig2 w (tn w s i l) := by
  rw [dig_tn hi l]
  have hp : 0 ≤ i / 2 ^ l := Int.ediv_nonneg hi (Int.le_of_lt (PySem.W.kbt_pos l))
  have h : (if i / 2 ^ l % 2 = 0 then [(l : Int), dig2 w (nd w i m sg l), sx sg (1 + nch w + l)] else [(l : Int), sx sg (1 + nch w + l), dig2 w (nd w i m sg l)]) =
      [(l : Int), row w s l (2 * (i / 2 ^ (l + 1)).toNat), row w s l (2 * (i / 2 ^ (l + 1)).toNat + 1)] := (Prod.mk.inj h).2
  rw [half2] at h
  generalize i / 2 ^ l = q at *
  split at h
  · rw [(List.cons.inj (List.cons.inj h).2).1]
    congr 1
    omega
  · rw [(List.cons.inj (List.cons.inj (List.cons.inj h).2).2).1]
    congr 1
    omega
theorem told_at {w m : Int} {sg : List Int} {l : Nat} (h : l ≤ Ls w sg) : (told w m sg)[l]? = some (nd w (sx sg 0) m sg l) := by
  unfold told
  rw [List.getElem?_append_left (by simp; omega)]
  simp [show l < Ls w sg + 1 by omega]
theorem told_top {w m : Int} {sg : List Int} : (told w m sg)[Ls w sg + 1]? = some (6, [(Ls w sg : Int), dig2 w (nd w (sx sg 0) m sg (Ls w sg))]) := by
  unfold told
  rw [List.getElem?_append_right (by simp)]
  simp
theorem told_len {w m : Int} {sg : List Int} : (told w m sg).length = Ls w sg + 2 := by
  simp [told]
theorem tru_at {w s i : Int} {L l : Nat} (h : l ≤ L) : (tru w s L i)[l]? = some (tn w s i l) := by
  unfold tru
  rw [List.getElem?_append_left (by simp; omega)]
  simp [show l < L + 1 by omega]
theorem tru_top {w s i : Int} {L : Nat} : (tru w s L i)[L + 1]? = some (6, [(L : Int), row w s L 0]) := by
  unfold tru
  rw [List.getElem?_append_right (by simp)]
  simp
theorem tru_len {w s i : Int} {L : Nat} : (tru w s L i).length = L + 2 := by
  simp [tru]
theorem rev_at {α : Type} {xs : List α} {j k : Nat} (h : j + k + 1 = xs.length) : xs.reverse[j]? = xs[k]? := by
  rw [List.getElem?_reverse (by omega)]
  congr 1
  omega
theorem sx_nnS {w : Int} {sg : List Int} (h : ∀ x ∈ sg.drop 1, 0 ≤ x ∧ x < 2 ^ w.toNat) (hw : Wd w) (k : Nat) : Nn (sx sg (k + 1)) := by
  have z := sx_word h hw k
  exact .of z.1 (by omega)
theorem Inp_ndS {w : Int} {m : Int} {sg : List Int} (hw : Wd w) (word : ∀ x ∈ sg.drop 1, 0 ≤ x ∧ x < 2 ^ w.toNat) (ix0 : 0 ≤ sx sg 0) (ix64 : sx sg 0 < 64) {l : Nat} (hl : l ≤ 6) : Inp (nd w (sx sg 0) m sg l) := by
  have hn := hw.nch
  cases l with
  | zero =>
    refine ⟨⟨by show (0 : Int) ≤ 5; decide, by show (5 : Int) < 16; decide⟩, ?_, fun n hn => ?_⟩
    · show (sx sg 0 :: topsS w (sx sg 0) m sg).length ≤ 100
      simp only [topsS, List.length_cons, List.length_map, List.length_range]
      omega
    · rcases List.mem_cons.mp hn with rfl | hn
      · exact .of ix0 (by omega)
      · obtain ⟨k, _, rfl⟩ := List.mem_map.mp hn
        rw [Nat.add_comm 1 k]
        exact nn_wk (sx_nnS word hw _) _
  | succ l =>
    have a : Nn (dig2 w (nd w (sx sg 0) m sg l)) := .dig _ _ _
    have b := sx_nnS word hw (nch w + l)
    have e : nch w + l + 1 = 1 + nch w + l := by omega
    rw [e] at b
    have c : Nn (l : Int) := .of (by omega) (by omega)
    show Inp (6, if sx sg 0 / 2 ^ l % 2 = 0 then [(l : Int), dig2 w (nd w (sx sg 0) m sg l), sx sg (1 + nch w + l)] else [(l : Int), sx sg (1 + nch w + l), dig2 w (nd w (sx sg 0) m sg l)])
    split
    all_goals
      refine ⟨⟨by show (0 : Int) ≤ 6; decide, by show (6 : Int) < 16; decide⟩, by show 3 ≤ 100; decide, fun n hn => ?_⟩
      simp only [List.mem_cons, List.not_mem_nil, or_false] at hn
      rcases hn with rfl | rfl | rfl <;> assumption
theorem Inp_nd {w s : Int} {L : Nat} {m : Int} {sg : List Int} (hw : Wd w) (v : Valid w s L m sg) {l : Nat} (hl : l ≤ 6) : Inp (nd w (sx sg 0) m sg l) := Inp_ndS hw v.word v.ix0 v.ix64 hl
theorem Inp_tn {w s i : Int} (hw : Wd w) (hi : 0 ≤ i) (hi' : i < 64) {l : Nat} (hl : l ≤ 6) : Inp (tn w s i l) := by
  have hn := hw.nch
  cases l with
  | zero =>
    refine ⟨⟨by show (0 : Int) ≤ 5; decide, by show (5 : Int) < 16; decide⟩, ?_, fun n hn => ?_⟩
    · show (i :: topsL w s i).length ≤ 100
      simp only [topsL, List.length_cons, List.length_map, List.length_range]
      omega
    · rcases List.mem_cons.mp hn with rfl | hn
      · exact .of hi (by omega)
      · obtain ⟨k, _, rfl⟩ := List.mem_map.mp hn
        exact nn_wd _ _ _ _ _
  | succ l =>
    refine ⟨⟨by show (0 : Int) ≤ 6; decide, by show (6 : Int) < 16; decide⟩, by show 3 ≤ 100; decide, fun n hn => ?_⟩
    have hn : n ∈ [(l : Int), row w s l (2 * (i / 2 ^ (l + 1)).toNat), row w s l (2 * (i / 2 ^ (l + 1)).toNat + 1)] := hn
    have a := nn_row w s l (2 * (i / 2 ^ (l + 1)).toNat)
    have b := nn_row w s l (2 * (i / 2 ^ (l + 1)).toNat + 1)
    have c : Nn (l : Int) := .of (by omega) (by omega)
    simp only [List.mem_cons, List.not_mem_nil, or_false] at hn
    rcases hn with rfl | rfl | rfl <;> assumption
theorem Inp_top {d : Int} {L : Nat} (hL : L ≤ 6) (hd : Nn d) : Inp (6, [(L : Int), d]) := by
  refine ⟨⟨by show (0 : Int) ≤ 6; decide, by show (6 : Int) < 16; decide⟩, by show 2 ≤ 100; decide, fun n hn => ?_⟩
  have c : Nn (L : Int) := .of (by omega) (by omega)
  simp only [List.mem_cons, List.not_mem_nil, or_false] at hn
  rcases hn with rfl | rfl <;> assumption
theorem Valid.dg {w s : Int} {L : Nat} {m : Int} {sg : List Int} (v : Valid w s L m sg) : dig2 w (6, [(L : Int), row w s L 0]) = dig2 w (6, [(Ls w sg : Int), dig2 w (nd w (sx sg 0) m sg (Ls w sg))]) := by
  have z := v.last
  unfold lastD pub at z
  unfold dig2
  exact z.symm
theorem row_z {w s i : Int} {L : Nat} (h0 : 0 ≤ i) (h1 : i < 2 ^ L) : dig2 w (tn w s i L) = row w s L 0 := by
  have e : (i / 2 ^ L).toNat = 0 := by rw [Int.ediv_eq_zero_of_lt h0 h1]; exact Int.toNat_zero
  rw [dig_tn h0, e]
/-- going down: nothing differs from level l up (l .. Ls), or the answer -/
theorem down {w s : Int} {L : Nat} {m : Int} {sg : List Int} (hw : Wd w) (hL : L ≤ 6) (v : Valid w s L m sg) (eL : Ls w sg = L) : ∀ (j : Nat), j ≤ L + 1 →
    (∃ t u, firstD (told w m sg).reverse (tru w s L (sx sg 0)).reverse = some (t, u) ∧ RealC w u t) ∨
    ((∀ i, i ≤ j → (told w m sg).reverse[i]? = (tru w s L (sx sg 0)).reverse[i]?)) := by
  have top : (told w m sg).reverse[0]? = some (6, [(Ls w sg : Int), dig2 w (nd w (sx sg 0) m sg (Ls w sg))]) := by
    rw [rev_at (k := Ls w sg + 1) (by rw [told_len]; omega), told_top]
  have top' : (tru w s L (sx sg 0)).reverse[0]? = some (6, [(L : Int), row w s L 0]) := by
    rw [rev_at (k := L + 1) (by rw [tru_len]; omega), tru_top]
  have at_ : ∀ i, i ≤ L → (told w m sg).reverse[i + 1]? = some (nd w (sx sg 0) m sg (L - i)) := fun i hi => by
    rw [rev_at (k := L - i) (by rw [told_len]; omega), told_at (by omega)]
  have at' : ∀ i, i ≤ L → (tru w s L (sx sg 0)).reverse[i + 1]? = some (tn w s (sx sg 0) (L - i)) := fun i hi => by
    rw [rev_at (k := L - i) (by rw [tru_len]; omega), tru_at (by omega)]
  intro j
  induction j with
  | zero =>
    intro _
    by_cases e : ((6 : Int), [(Ls w sg : Int), dig2 w (nd w (sx sg 0) m sg (Ls w sg))]) = (6, [(L : Int), row w s L 0])
    · refine .inr fun i hi => ?_
      have : i = 0 := by omega
      subst this
      rw [top, top', e]
    · refine .inl ⟨_, _, firstD_some (k := 0) (fun j hj => by omega) top top' e, ?_, fun q => e q.symm, Inp_top hL (nn_row _ _ _ _), Inp_top v.Ls6 (.dig _ _ _)⟩
      exact v.dg
  | succ j ih =>
    intro hj
    rcases ih (by omega) with h | h
    · exact .inl h
    · by_cases e : nd w (sx sg 0) m sg (L - j) = tn w s (sx sg 0) (L - j)
      · refine .inr fun i hi => ?_
        by_cases hi' : i ≤ j
        · exact h i hi'
        · have : i = j + 1 := by omega
          subst this
          rw [at_ j (by omega), at' j (by omega), e]
      · refine .inl ⟨_, _, firstD_some (k := j + 1) (fun i hi => h i (by omega)) (at_ j (by omega)) (at' j (by omega)) e, ?_, fun q => e q.symm, Inp_tn hw v.ix0 v.ix64 (by omega), Inp_nd hw v (by omega)⟩
        -- the digests: by the input above
        have hj' := h j (Nat.le_refl _)
        cases j with
        | zero =>
          rw [top, top'] at hj'
          have q := (List.cons.inj (List.cons.inj (Prod.mk.inj (Option.some.inj hj')).2).2).1
          rw [eL] at q
          have z := v.ix1
          rw [eL] at z
          rw [Nat.sub_zero, q]
          exact row_z v.ix0 z
        | succ j =>
          rw [at_ j (by omega), at' j (by omega)] at hj'
          have q := Option.some.inj hj'
          have e2 : L - j = (L - (j + 1)) + 1 := by omega
          rw [e2] at q
          exact (step_up v.ix0 q).symm
theorem due_eq {w s : Int} {L : Nat} {m : Int} {sg : List Int} (v : Valid w s L m sg) (eL : Ls w sg = L) : mn sg L = sx sg 0 := by
  have := v.ix1
  rw [eL] at this
  unfold mn
  rw [if_neg (by omega)]
/-- the first input: the level -/
theorem lev {w s : Int} {L : Nat} {m i : Int} {sg : List Int} (hL : L ≤ 6) (v : Valid w s L m sg) (ne : Ls w sg ≠ L) : ∃ t u, firstD (told w m sg).reverse (tru w s L i).reverse = some (t, u) ∧ RealC w u t := by
  have top : (told w m sg).reverse[0]? = some (6, [(Ls w sg : Int), dig2 w (nd w (sx sg 0) m sg (Ls w sg))]) := by
    rw [rev_at (k := Ls w sg + 1) (by rw [told_len]; omega), told_top]
  have top' : (tru w s L i).reverse[0]? = some (6, [(L : Int), row w s L 0]) := by
    rw [rev_at (k := L + 1) (by rw [tru_len]; omega), tru_top]
  have e : ((6 : Int), [(Ls w sg : Int), dig2 w (nd w (sx sg 0) m sg (Ls w sg))]) ≠ (6, [(L : Int), row w s L 0]) := fun q => by
    injection q with _ q
    injection q with q _
    omega
  exact ⟨_, _, firstD_some (k := 0) (fun j hj => by omega) top top' e, v.dg, fun q => e q.symm, Inp_top hL (nn_row _ _ _ _), Inp_top v.Ls6 (.dig _ _ _)⟩
/-- nothing differs: the levels are alike and the tops are -/
theorem same_of {w s : Int} {L : Nat} {m : Int} {sg : List Int} (hw : Wd w) (hL : L ≤ 6) (v : Valid w s L m sg) (h : firstD (told w m sg).reverse (tru w s L (mn sg L)).reverse = none) :
    Ls w sg = L ∧ mn sg L = sx sg 0 ∧ topsS w (sx sg 0) m sg = topsL w s (sx sg 0) := by
  by_cases eL : Ls w sg = L
  · have e := due_eq v eL
    rw [e] at h
    rcases down hw hL v eL (L + 1) (Nat.le_refl _) with ⟨t, u, q, _⟩ | q
    · rw [h] at q
      cases q
    · refine ⟨eL, e, ?_⟩
      have z := q (L + 1) (Nat.le_refl _)
      rw [rev_at (k := 0) (by rw [told_len]; omega), rev_at (k := 0) (by rw [tru_len]), told_at (Nat.zero_le _), tru_at (Nat.zero_le _)] at z
      exact (List.cons.inj (Prod.mk.inj (Option.some.inj z)).2).2
  · obtain ⟨t, u, q, _⟩ := lev (i := mn sg L) hL v eL
    rw [h] at q
    cases q
structure Sd (w : Int) (sd : List (Int × Int)) : Prop where
  msg : ∀ i m, sd.lookup i = some m → 0 ≤ m ∧ m < 2 ^ w.toNat
/-- the break is there, and a collision is one -/
theorem due_good {w s : Int} {L : Nat} {m : Int} {sg : List Int} {sd : List (Int × Int)} (hw : Wd w) (hL : L ≤ 6) (hm : 0 ≤ m ∧ m < 2 ^ w.toNat) (hsd : Sd w sd) (hne : sd.lookup (sx sg 0) ≠ some m) (v : Valid w s L m sg) :
    (∃ a b, due w s L sd m sg = .coll a b ∧ RealC w a b) ∨ (∃ i k d x, due w s L sd m sg = .found i k d x) := by
  unfold due
  cases h : firstD (told w m sg).reverse (tru w s L (mn sg L)).reverse with
  | some tu =>
    obtain ⟨t, u⟩ := tu
    refine .inl ⟨u, t, rfl, ?_⟩
    by_cases eL : Ls w sg = L
    · have e := due_eq v eL
      rw [e] at h
      rcases down hw hL v eL (L + 1) (Nat.le_refl _) with ⟨t', u', q, r⟩ | q
      · rw [h] at q
        cases q
        exact r
      · have := firstD_none (as := (told w m sg).reverse) (bs := (tru w s L (sx sg 0)).reverse) fun j hj => q j (by
          rw [List.length_reverse, List.length_reverse, told_len, tru_len] at hj
          omega)
        rw [h] at this
        cases this
    · obtain ⟨t', u', q, r⟩ := lev (i := mn sg L) hL v eL
      rw [h] at q
      cases q
      exact r
  | none =>
    obtain ⟨eL, e, tops⟩ := same_of hw hL v h
    show (∃ a b, chb w s sd m sg = .coll a b ∧ RealC w a b) ∨ ∃ i k d x, chb w s sd m sg = .found i k d x
    unfold chb
    cases f : (List.range (nch w)).find? (fun (c : Nat) => decide (sx sg (1 + c) ≠ wd w s (sx sg 0) c (dgt w m c).toNat)) with
    | some c =>
      obtain ⟨hc, pc, _⟩ := find_is f
      have pc : sx sg (1 + c) ≠ wd w s (sx sg 0) c (dgt w m c).toNat := of_decide_eq_true pc
      refine .inl ?_
      show ∃ a b, meet w s (sx sg 0) c (dgt w m c) (sx sg (1 + c)) = .coll a b ∧ RealC w a b
      have hd := dgt_le (w := w) (m := m) c
      have hn6 := hw.nch
      have tc : wk w (sx sg 0) c (dgt w m c) (sx sg (1 + c)) (15 - dgt w m c).toNat = wd w s (sx sg 0) c 15 := by
        have z : (topsS w (sx sg 0) m sg)[c]? = (topsL w s (sx sg 0))[c]? := by rw [tops]
        simp only [topsS, topsL, List.getElem?_map, List.getElem?_range hc] at z
        exact Option.some.inj z
      generalize hx : sx sg (1 + c) = x at *
      have xn : Nn x := by rw [← hx, Nat.add_comm 1 c]; exact sx_nn hw v _
      generalize dgt w m c = d at *
      unfold meet
      cases g : (List.range (15 - d).toNat).find? (fun (k : Nat) => decide (wk w (sx sg 0) c d x (k + 1) = wd w s (sx sg 0) c (d.toNat + k + 1))) with
      | some k =>
        obtain ⟨hk, pk, bk⟩ := find_is g
        have pk : wk w (sx sg 0) c d x (k + 1) = wd w s (sx sg 0) c (d.toNat + k + 1) := of_decide_eq_true pk
        refine ⟨_, _, rfl, ?_, ?_, ?_, ?_⟩
        · show dig w 4 [sx sg 0, (c : Int), d + k, wd w s (sx sg 0) c (d.toNat + k)] = wk w (sx sg 0) c d x (k + 1)
          rw [pk, wd_dig]
          congr 4
          omega
        · intro q
          injection q with _ q
          injection q with _ q
          injection q with _ q
          injection q with _ q
          injection q with q _
          cases k with
          | zero => exact pc (q.symm)
          | succ k =>
            have z := of_decide_eq_false (bk k (by omega))
            exact z q.symm
        · refine ⟨⟨by show (0 : Int) ≤ 4; decide, by show (4 : Int) < 16; decide⟩, by show 4 ≤ 100; decide, fun n hn => ?_⟩
          have z1 := nn_wd w s (sx sg 0) c (d.toNat + k)
          have z2 : Nn (sx sg 0) := by have := v.ix64; exact .of v.ix0 (by omega)
          have z3 : Nn (c : Int) := .of (by omega) (by omega)
          have z4 : Nn (d + k) := .of (by omega) (by omega)
          simp only [List.mem_cons, List.not_mem_nil, or_false] at hn
          rcases hn with rfl | rfl | rfl | rfl <;> assumption
        · refine ⟨⟨by show (0 : Int) ≤ 4; decide, by show (4 : Int) < 16; decide⟩, by show 4 ≤ 100; decide, fun n hn => ?_⟩
          have z1 := nn_wk (w := w) (i := sx sg 0) (c := c) (a := d) xn k
          have z2 : Nn (sx sg 0) := by have := v.ix64; exact .of v.ix0 (by omega)
          have z3 : Nn (c : Int) := .of (by omega) (by omega)
          have z4 : Nn (d + k) := .of (by omega) (by omega)
          simp only [List.mem_cons, List.not_mem_nil, or_false] at hn
          rcases hn with rfl | rfl | rfl | rfl <;> assumption
      | none =>
        exfalso
        have all := List.find?_eq_none.mp g
        by_cases d15 : d = 15
        · subst d15
          exact pc tc
        · have z := all ((15 - d).toNat - 1) (List.mem_range.mpr (by omega))
          refine z (decide_eq_true ?_)
          have e1 : (15 - d).toNat - 1 + 1 = (15 - d).toNat := by omega
          have e2 : d.toNat + ((15 - d).toNat - 1) + 1 = 15 := by omega
          rw [e1, e2]
          exact tc
    | none =>
      refine .inr ?_
      show ∃ i k d x, (match (List.range (nch w)).find? (fun (c : Nat) => decide (dgt w m c < given w sd (sx sg 0) c)) with
        | some c => Ans.found (sx sg 0) c (dgt w m c) (sx sg (1 + c))
        | none => .non) = .found i k d x
      cases g : (List.range (nch w)).find? (fun (c : Nat) => decide (dgt w m c < given w sd (sx sg 0) c)) with
      | some c => exact ⟨_, _, _, _, rfl⟩
      | none =>
        exfalso
        have all := List.find?_eq_none.mp g
        have all' : ∀ c, c < nch w → ¬ dgt w m c < given w sd (sx sg 0) c := fun c hc z => all c (List.mem_range.mpr hc) (decide_eq_true z)
        unfold given at all'
        cases q : sd.lookup (sx sg 0) with
        | none =>
          rw [q] at all'
          have a := all' 0 (by have := hw.nch; omega)
          have b := dgt_le (w := w) (m := m) 0
          have a : ¬ dgt w m 0 < 16 := a
          omega
        | some m' =>
          rw [q] at all' hne
          obtain ⟨h0, h1⟩ := hsd.msg _ _ q
          obtain ⟨k, hk, lt⟩ := digits_lt hw hm.1 hm.2 h0 h1 fun z => hne (by rw [z])
          exact all' k hk lt
end K11
namespace K11
open PySem L2 PyProof.Rows

/-! ### heaps -/
def Nw (H H' : Hp) : Hp := fun b => match H b with
  | some _ => none
  | none => H' b
def hide (G : Hp) (D : Addr) : Hp := fun b => if b = D then none else G b
section
variable {H0 H H' G G' : Hp} {D p b : Addr} {o u : HO}
theorem Nw.at_ (h : H b = none) : Nw H H' b = H' b := by
  unfold Nw
  rw [h]
theorem Nw.get (h : Nw H H' b = some u) : H b = none ∧ H' b = some u := by
  unfold Nw at h
  cases e : H b with
  | none => rw [e] at h; exact ⟨rfl, h⟩
  | some z => (rw [e] at h; cases h)
theorem Nw.to : Same (Nw H H') H' := fun _ _ h => (Nw.get h).2
theorem Nw.mono (s : Same H0 H) : Same (Nw H H') (Nw H0 H') := fun b o h => by
  obtain ⟨a, c⟩ := Nw.get h
  rw [Nw.at_ (s.free a)]
  exact c
theorem Nw.grow (t : Same H H') : Same (Nw H0 H) (Nw H0 H') := fun b o h => by
  obtain ⟨a, c⟩ := Nw.get h
  rw [Nw.at_ a]
  exact t b o c
theorem hide.get (h : hide G D b = some u) : b ≠ D ∧ G b = some u := by
  unfold hide at h
  by_cases e : b = D
  · rw [if_pos e] at h; cases h
  · rw [if_neg e] at h; exact ⟨e, h⟩
theorem hide.at_ (h : b ≠ D) : hide G D b = G b := if_neg h
theorem hide.to : Same (hide G D) G := fun _ _ h => (hide.get h).2
theorem hide.grow (s : Same G G') : Same (hide G D) (hide G' D) := fun b o h => by
  obtain ⟨a, c⟩ := hide.get h
  rw [hide.at_ a]
  exact s b o c
theorem hide.upd : hide (Nw H0 (upd H D o)) D = hide (Nw H0 H) D := by
  funext b
  by_cases e : b = D
  · unfold hide; rw [if_pos e, if_pos e]
  · rw [hide.at_ e, hide.at_ e]
    unfold Nw
    rw [upd_ne e]
/-- what a call has made, seen from where the list at D is being made -/
theorem Nw.hid (s : Same H0 H) (hD : H D = some o) : Same (Nw H H') (hide (Nw H0 H') D) := fun b u h => by
  obtain ⟨a, c⟩ := Nw.get h
  rw [hide.at_ (fun e => by rw [e, hD] at a; cases a), Nw.at_ (s.free a)]
  exact c
theorem Same.new (h : H p = none) : Same H (upd H p o) := fun b u e => by
  rw [upd_ne (ne_of_none e h)]
  exact e
theorem Same.put (s : Same H0 H) (h : H0 p = none) : Same H0 (upd H p o) := fun b u e => by
  rw [upd_ne (ne_of_none e h)]
  exact s b u e
/-- a new object is laid: the heap from then on by what is known of it -/
theorem lay {A : Hp → Prop} (hp : H p = none) (h : ∀ H1, Same H H1 → H1 p = some o → H1 = upd H p o → A H1) : A (upd H p o) := h _ (Same.new hp) upd_same rfl
end

/-! ### data -/
abbrev RV (α : Type) := Hp → V → α → Prop
def Mono {α : Type} (R : RV α) : Prop := ∀ (H H' : Hp) (v : V) (x : α), Same H H' → R H v x → R H' v x
def All2 {α : Type} (R : V → α → Prop) (vs : List V) (xs : List α) : Prop := vs.length = xs.length ∧ ∀ (i : Nat) (v : V) (x : α), vs[i]? = some v → xs[i]? = some x → R v x
section
variable {α : Type} {R R' : V → α → Prop} {vs : List V} {xs : List α}
theorem All2.nil : All2 R [] [] := ⟨rfl, fun i v x h => by simp at h⟩
theorem All2.mono (h : All2 R vs xs) (f : ∀ v x, R v x → R' v x) : All2 R' vs xs := ⟨h.1, fun i v x a b => f _ _ (h.2 i v x a b)⟩
theorem All2.snoc {v : V} {x : α} (h : All2 R vs xs) (r : R v x) : All2 R (vs ++ [v]) (xs ++ [x]) := by
  refine ⟨by rw [List.length_append, List.length_append, h.1]; rfl, fun i u y a b => ?_⟩
  by_cases e : i < vs.length
  · rw [List.getElem?_append_left e] at a
    rw [List.getElem?_append_left (by rw [← h.1]; exact e)] at b
    exact h.2 i u y a b
  · rw [List.getElem?_append_right (by omega)] at a
    rw [List.getElem?_append_right (by rw [← h.1]; omega), ← h.1] at b
    cases k : i - vs.length with
    | zero =>
      rw [k] at a b
      simp at a b
      subst a b
      exact r
    | succ k' =>
      rw [k] at a
      simp at a
theorem All2.get {i : Nat} {x : α} (h : All2 R vs xs) (e : xs[i]? = some x) : ∃ v, vs[i]? = some v ∧ R v x := by
  have hi : i < vs.length := by
    rw [h.1]
    (exact (List.getElem?_eq_some_iff.mp e).1)
  exact ⟨vs[i], List.getElem?_eq_getElem hi, h.2 i _ _ (List.getElem?_eq_getElem hi) e⟩
theorem All2.at_ {i : Nat} {v : V} (h : All2 R vs xs) (e : vs[i]? = some v) : ∃ x, xs[i]? = some x ∧ R v x := by
  have hi : i < xs.length := by
    rw [← h.1]
    (exact (List.getElem?_eq_some_iff.mp e).1)
  exact ⟨xs[i], List.getElem?_eq_getElem hi, h.2 i _ _ e (List.getElem?_eq_getElem hi)⟩
theorem All2.rev (h : All2 R vs xs) : All2 R vs.reverse xs.reverse := by
  refine ⟨by rw [List.length_reverse, List.length_reverse, h.1], fun i v x a b => ?_⟩
  have hi : i < vs.length := by
    have := (List.getElem?_eq_some_iff.mp a).1
    rwa [List.length_reverse] at this
  rw [List.getElem?_reverse hi] at a
  rw [List.getElem?_reverse (by rw [← h.1]; exact hi), ← h.1] at b
  exact h.2 _ _ _ a b
theorem All2.cons {v : V} {x : α} (r : R v x) (h : All2 R vs xs) : All2 R (v :: vs) (x :: xs) := by
  refine ⟨by rw [List.length_cons, List.length_cons, h.1], fun i u y a b => ?_⟩
  cases i with
  | zero => simp at a b; subst a b; exact r
  | succ i => simp at a b; exact h.2 i u y a b
/-- one more, made by f -/
theorem All2.next {f : Nat → α} {n : Nat} {v : V} (h : All2 R vs ((List.range n).map f)) (r : R v (f n)) : All2 R (vs ++ [v]) ((List.range (n + 1)).map f) := by
  rw [List.range_succ, List.map_append]
  exact h.snoc r
theorem All2.len (h : All2 R vs xs) : vs.length = xs.length := h.1
end
/-- a list of x's -/
def LsR {α : Type} (R : RV α) : RV (List α) := fun H v xs => ∃ a vs, v = .ref a ∧ H a = some (.lst vs) ∧ All2 (R H) vs xs
def LsI : RV (List Int) := fun H v ns => ∃ a, v = .ref a ∧ H a = some (.lst (ns.map V.int))
def TpI : RV (List Int) := fun H v ns => ∃ a, v = .ref a ∧ H a = some (.tup (ns.map V.int))
def In1 : RV (Int × List Int) := fun H v x => ∃ a b, v = .ref a ∧ H a = some (.tup [.int x.1, .ref b]) ∧ H b = some (.tup (x.2.map V.int))
def AnsR : RV Ans := fun H v x => match x with
  | .non => v = .non
  | .coll a b => ∃ p va vb, v = .ref p ∧ H p = some (.tup [.str "collision", va, vb]) ∧ In1 H va a ∧ In1 H vb b
  | .found i k d x => ∃ p, v = .ref p ∧ H p = some (.tup [.str "found", .int i, .int k, .int d, .int x])
theorem LsI.mono : Mono LsI := fun _ _ _ _ s ⟨a, e, h⟩ => ⟨a, e, s _ _ h⟩
theorem TpI.mono : Mono TpI := fun _ _ _ _ s ⟨a, e, h⟩ => ⟨a, e, s _ _ h⟩
theorem In1.mono : Mono In1 := fun _ _ _ _ s ⟨a, b, e, h, k⟩ => ⟨a, b, e, s _ _ h, s _ _ k⟩
theorem LsR.mono {α : Type} {R : RV α} (m : Mono R) : Mono (LsR R) := fun H H' _ _ s ⟨a, vs, e, h, k⟩ => ⟨a, vs, e, s _ _ h, k.mono fun v x r => m H H' v x s r⟩
theorem AnsR.mono : Mono AnsR := fun H H' v x s h => by
  cases x with
  | non => exact h
  | coll a b => obtain ⟨p, va, vb, e, k, r, q⟩ := h; exact ⟨p, va, vb, e, s _ _ k, In1.mono _ _ _ _ s r, In1.mono _ _ _ _ s q⟩
  | found i k d y => obtain ⟨p, e, z⟩ := h; exact ⟨p, e, s _ _ z⟩
abbrev Keys : RV (List (List (List Int))) := LsR (LsR LsI)
abbrev Rows : RV (List (List Int)) := LsR LsI
abbrev Ins : RV (List (Int × List Int)) := LsR In1
section
variable {H H' : Hp} {v : V} (s : Same H H')
include s
theorem keys_mono {x : List (List (List Int))} : Keys H v x → Keys H' v x := LsR.mono (LsR.mono LsI.mono) _ _ _ _ s
theorem rows_mono {x : List (List Int)} : Rows H v x → Rows H' v x := LsR.mono LsI.mono _ _ _ _ s
theorem ins_mono {x : List (Int × List Int)} : Ins H v x → Ins H' v x := LsR.mono In1.mono _ _ _ _ s
theorem in1_mono {x : Int × List Int} : In1 H v x → In1 H' v x := In1.mono _ _ _ _ s
end

/-! ### data as the kit's data -/
def dIn (x : Int × List Int) : PyData := .tuple [.int x.1, .tuple (x.2.map .int)]
def dAns : Ans → PyData
  | .non => .none
  | .coll a b => .tuple [.str "collision", dIn a, dIn b]
  | .found i k d x => .tuple [.str "found", .int i, .int k, .int d, .int x]
theorem dp_ints {K : PySem.W.Frag} {H : Hp} : ∀ ns : List Int, DpAll K H (ns.map V.int) (ns.map .int)
  | [] => .nil
  | n :: ns => .cons (.int n) (dp_ints ns)
theorem In1.dp {K : PySem.W.Frag} {H : Hp} {v : V} {x : Int × List Int} (h : In1 H v x) : Dp K H v (dIn x) := by
  obtain ⟨a, b, rfl, h1, h2⟩ := h
  exact .tup (SqT.of h1) (.cons (.int _) (.cons (.tup (SqT.of h2) (dp_ints _)) .nil))
theorem AnsR.dp {K : PySem.W.Frag} {H : Hp} {v : V} {x : Ans} (h : AnsR H v x) : Dp K H v (dAns x) := by
  cases x with
  | non => rw [show v = .non from h]; exact .non
  | coll a b =>
    obtain ⟨p, va, vb, rfl, k, r, q⟩ := h
    exact .tup (SqT.of k) (.cons (.str _) (.cons r.dp (.cons q.dp .nil)))
  | found i k d y =>
    obtain ⟨p, rfl, z⟩ := h
    exact .tup (SqT.of z) (.cons (.str _) (.cons (.int _) (.cons (.int _) (.cons (.int _) (.cons (.int _) .nil)))))

/-! ### rules of our own -/
section
variable {X : Cx}
/-- sum(t) of a tuple of ints -/
theorem cr_sumT (hc : X.calm = true) : CallR X (.builtin "sum") (fun vs H Q => ∃ (a : Addr) (ns : List Int), vs = [V.ref a] ∧ SqT X.K H a (ns.map V.int) ∧ Q (.int ns.sum) H) := by
  rintro pins s σ H vs us Q I r ⟨a, ns, rfl, ht, q⟩
  obtain ⟨its, rv, tup, _⟩ := I.tuple ht
  rw [Vals.ref1 r]
  obtain ⟨xs, ex⟩ := rv.ints.allInts.items
  have en : numsOf (intItems xs).toList = ns := by
    rw [← ex]
    exact rv.ints.numsOf
  rw [nums_intItems] at en
  rw [ex] at tup
  refine PySem.W.ktm_sumG (I.ok.hd hc) tup fun h' tk t' kept => ?_
  rw [preSum_eq, List.take_of_length_le (by simp), en]
  exact ⟨.int _, H, I.kept kept, ⟨_, rfl⟩, q⟩
/-- l[j], for an augmented store -/
theorem get_list : PGet X (fun o i H Q => ∃ (p : Addr) (xs : List V) (j : Nat) (v : V), o = .ref p ∧ i = .int j ∧ SqL X.K H p xs ∧ xs[j]? = some v ∧ Q v H) := by
  rintro pins s σ H o i ov iv Q I ro ri ⟨p, xs, j, v, rfl, rfl, hs, hv, q⟩
  cases ro
  obtain ⟨t, rfl⟩ := ri
  (obtain ⟨its, rv, pl, hz⟩ := I.list hs)
  obtain ⟨u, eu, ru⟩ := rv.get hv
  have l63 := line63
  have lj := (List.getElem?_eq_some_iff.mp hv).1
  exact wpAny_getItem_list pl.isList (Int.natCast_nonneg j) (by omega) (by simpa using eu) ⟨v, H, I, ru, q⟩
theorem sqT_mono {K : PySem.W.Frag} {H H' : Hp} {a : Addr} {xs : List V} (e : Same H H') (h : SqT K H a xs) : SqT K H' a xs := by
  (rcases h with (h | ⟨o, h⟩) | h)
  · exact .inl (.inl (e _ _ h))
  · (exact .inl (.inr ⟨o, e _ _ h⟩))
  · exact .inr h
/-- a list or a tuple that a name holds is walked, one that stood already in Hb -/
theorem pi_seq {tg l : Expr} {j : Nat} (hl : PE X l (tVar j)) : PI X tg l (fun σ H R => ∃ (a : Addr) (xs : List V) (Hb : Hp), σ[j]? = some (some (.ref a)) ∧ Same Hb H ∧ (SqL X.K Hb a xs ∨ SqT X.K Hb a xs) ∧
    ∀ (J : It) (G : Hp → Prop), Walk J xs.length G (YAt xs) → (∀ H', Same Hb H' → G H') → R J H) := by
  refine ⟨fun pins s σ H R I ⟨a, xs, Hb, e, sb, hs, q⟩ => ?_⟩
  rcases hs with hs | hs
  · exact (pi_list hl).run pins s σ H R I ⟨_, e, a, rfl, ⟨xs, sb.seq hs⟩, q _ _ walk_list fun H' z => z.seq hs⟩
  · exact (pi_tup hl).run pins s σ H R I ⟨_, e, a, rfl, ⟨xs, sqT_mono sb hs⟩, q _ _ walk_tup fun H' z => sqT_mono z hs⟩
/-- what is walked is a list that stood already in Hb -/
theorem int_of {ns : List Int} {i : Nat} {x : V} (h : (ns.map V.int)[i]? = some x) : ∃ n, ns[i]? = some n ∧ x = .int n := by
  rw [List.getElem?_map] at h
  cases e : ns[i]? with
  | none => (rw [e] at h; cases h)
  | some n => rw [e] at h; exact ⟨n, rfl, (Option.some.inj h).symm⟩
theorem take_next {α : Type} {xs : List α} {i : Nat} {x : α} (h : xs[i]? = some x) : xs.take (i + 1) = xs.take i ++ [x] := by
  rw [List.take_succ, h]
  rfl
theorem sz1 {n : Nat} (h : n ≤ 10000) : n ≤ sizeLine := Nat.le_trans h (by decide)
theorem sz2 {n : Nat} (h : n ≤ 10000) : n < sizeLine := Nat.lt_of_le_of_lt h (by decide)
end
end K11
namespace K11
open PySem L2
/-! ### the text by places; what its top has left -/
def top (i : Nat) : Stmt := PySem.Challenge.pw_offing_k11_whole_breaks_of_signatures.main.body.getD i (.Pass ⟨0, 0, 0, 0⟩)
def Cn (mg : Str → Option Value) (x : Str) (i : Int) : Prop := ∃ u, mg x = some u ∧ RelV (.int i) u
structure Tx (K : PySem.W.Frag) (mg : Str → Option Value) (CH CS : Addr) : Prop where
  len : mg "len" = none
  sum : mg "sum" = none
  all : mg "all" = none
  any : mg "any" = none
  min : mg "min" = none
  tuple : mg "tuple" = none
  list : mg "list" = none
  int : mg "int" = none
  dict : mg "dict" = none
  range : mg "range" = none
  gMASK : Cn mg "MASK" 18446744073709551615
  gFIRST : Cn mg "FIRST" 7263541890216354987
  gSECOND : Cn mg "SECOND" 12985647301928374651
  gONE : Cn mg "ONE" 15241578750190521011
  gOTHER : Cn mg "OTHER" 9764318250173649287
  gLIMB : Cn mg "LIMB" 4294967295
  gWHOLE : Cn mg "WHOLE" 128
  gCHAIN : Cn mg "CHAIN" 4
  gKEY : Cn mg "KEY" 5
  gTREE : Cn mg "TREE" 6
  gSECRET : Cn mg "SECRET" 7
  gBASE : Cn mg "BASE" 16
  gMOST_LEVELS : Cn mg "MOST_LEVELS" 6
  cH : Cls K CH
  cS : Cls K CS
  nH : NoAttr K CH "width"
  nS1 : NoAttr K CS "hasher"
  nS2 : NoAttr K CS "secret"
  nS3 : NoAttr K CS "levels"
  nS4 : NoAttr K CS "words"
  nS5 : NoAttr K CS "rows"
  nS6 : NoAttr K CS "public"
/-! ### objects -/
def HasherAt (CH : Addr) (H : Hp) (h : Addr) (w : Int) : Prop := ∃ dx, H h = some (.ins CH dx [("width", .int w)])
theorem HasherAt.mono {CH h : Addr} {H H' : Hp} {w : Int} (s : Same H H') (k : HasherAt CH H h w) : HasherAt CH H' h w := let ⟨dx, e⟩ := k; ⟨dx, s _ _ e⟩
/-- the attributes of a signer that is being made -/
structure Flds (fs : List (Str × V)) (h : Addr) (s L : Int) : Prop where
  hasher : fs.lookup ("hasher" : Str) = some (.ref h)
  secret : fs.lookup ("secret" : Str) = some (.int s)
  levels : fs.lookup ("levels" : Str) = some (.int L)
  m1 : fs.lookup ("chains" : Str) = none
  m2 : fs.lookup ("key_words" : Str) = none
  m3 : fs.lookup ("word" : Str) = none
  m4 : fs.lookup ("tops" : Str) = none
structure SignerAt (CH CS : Addr) (H : Hp) (p : Addr) (w s : Int) (L : Nat) : Prop where
  ex : ∃ dx fs h vw vr, H p = some (.ins CS dx fs) ∧ Flds fs h s L ∧ HasherAt CH H h w ∧ fs.lookup ("words" : Str) = some vw ∧ Keys H vw (keysL w s L) ∧ fs.lookup ("rows" : Str) = some vr ∧ Rows H vr (rowsL w s L) ∧ fs.lookup ("public" : Str) = some (.int (pub w s L))
theorem SignerAt.mono {CH CS p : Addr} {H H' : Hp} {w s : Int} {L : Nat} (z : Same H H') (k : SignerAt CH CS H p w s L) : SignerAt CH CS H' p w s L :=
  let ⟨dx, fs, h, vw, vr, a, b, c, d, e, f, g, i⟩ := k.ex
  ⟨dx, fs, h, vw, vr, z _ _ a, b, c.mono z, d, keys_mono z e, f, rows_mono z g, i⟩
/-- a signer of h: its lists in HL -/
def SgIn (CS : Addr) (HL H : Hp) (p h : Addr) (w s : Int) (L : Nat) : Prop := ∃ dx fs vw vr, H p = some (.ins CS dx fs) ∧ Flds fs h s L ∧ fs.lookup ("words" : Str) = some vw ∧ Keys HL vw (keysL w s L) ∧ fs.lookup ("rows" : Str) = some vr ∧ Rows HL vr (rowsL w s L) ∧ fs.lookup ("public" : Str) = some (.int (pub w s L))
theorem SgIn.at_ {CH CS : Addr} {HL H G : Hp} {p h : Addr} {w s : Int} {L : Nat} (k : SgIn CS HL H p h w s L) (hp : H p = G p) (s1 : Same HL G) (hh : HasherAt CH G h w) : SignerAt CH CS G p w s L :=
  let ⟨dx, fs, vw, vr, e, f, a, b, c, d, g⟩ := k
  ⟨dx, fs, h, vw, vr, hp ▸ e, f, hh, a, keys_mono s1 b, c, rows_mono s1 d, g⟩
/-! ### promises -/
section
variable (K : PySem.W.Frag) (CH CS : Addr)
def Sq (H : Hp) (a : Addr) (ns : List Int) : Prop := SqL K H a (ns.map V.int) ∨ SqT K H a (ns.map V.int)
def spLimbs : Sp := fun vs H Q _ => ∃ (a : Addr) (ns : List Int), vs = [.ref a] ∧ Sq K H a ns ∧ Sm ns ∧ ∀ H' p, Same H H' → H p = none → H' p = some (.lst ((limbs ns).map V.int)) → Q (.ref p) H'
def spHInit : Sp := fun vs H Q _ => ∃ (p dx : Addr) (w : Int), vs = [.ref p, .int w] ∧ H p = some (.ins CH dx []) ∧ Q .non (upd H p (.ins CH dx [("width", .int w)]))
def spDigest : Sp := fun vs H Q _ => ∃ (p a : Addr) (w t : Int) (ns : List Int), vs = [.ref p, .int t, .ref a] ∧ HasherAt CH H p w ∧ Wd w ∧ Sq K H a ns ∧ Sm ns ∧ ∀ H', Same H H' → Q (.int (dig w t ns)) H'
def spIsDig : Sp := fun vs H Q _ => ∃ (p : Addr) (w n : Int), vs = [.ref p, .int n] ∧ HasherAt CH H p w ∧ Wd w ∧ Q (.bl (decide (0 ≤ n ∧ n < 2 ^ w.toNat))) H
def spColl : Sp := fun vs H Q _ => ∃ (va vb : V) (a b : Int × List Int), vs = [va, vb] ∧ In1 H va a ∧ In1 H vb b ∧ ∀ H' v, Same H H' → AnsR H' v (.coll a b) → Q v H'
def spIsInput : Sp := fun vs H Q _ => ∃ (va : V) (a : Int × List Int), vs = [va] ∧ In1 H va a ∧ Inp a ∧ ∀ H', Same H H' → Q (.bl true) H'
def spIsColl : Sp := fun vs H Q _ => ∃ (h : Addr) (w : Int) (v : V) (a b : Int × List Int), vs = [.ref h, v] ∧ HasherAt CH H h w ∧ Wd w ∧ AnsR H v (.coll a b) ∧ RealC w a b ∧ ∀ H', Same H H' → Q (.bl true) H'
def spCounts : Sp := fun vs H Q _ => ∃ w : Int, vs = [.int w] ∧ Wd w ∧ ∀ p, H p = none → Q (.ref p) (upd H p (.tup [.int (cnt w), .int (chk w)]))
def spDigits : Sp := fun vs H Q _ => ∃ w m : Int, vs = [.int w, .int m] ∧ Wd w ∧ ∀ H' p, Same H H' → H p = none → H' p = some (.lst ((digits w m).map V.int)) → Q (.ref p) H'
def spStepped : Sp := fun vs H Q _ => ∃ (h : Addr) (w i c x a : Int), vs = [.ref h, .int i, .int c, .int x, .int a, .int 15] ∧ HasherAt CH H h w ∧ Wd w ∧ Nn i ∧ Nn c ∧ Nn x ∧ 0 ≤ a ∧ a ≤ 15 ∧
  ∀ H' p, Same H H' → H p = none → H' p = some (.lst (((List.range (16 - a).toNat).map (wk w i c a x)).map V.int)) → Q (.ref p) H'
def spKeyDig : Sp := fun vs H Q _ => ∃ (h t : Addr) (w i : Int) (ns : List Int), vs = [.ref h, .int i, .ref t] ∧ HasherAt CH H h w ∧ Wd w ∧ H t = some (.lst (ns.map V.int)) ∧ Sm (i :: ns) ∧ ∀ H', Same H H' → Q (.int (dig w 5 (i :: ns))) H'
/-! a signer that is being made: its first attributes -/
def PreS (H : Hp) (p : Addr) (w s L : Int) : Prop := ∃ dx fs h, H p = some (.ins CS dx fs) ∧ Flds fs h s L ∧ HasherAt CH H h w ∧ Wd w ∧ Nn s
def PreW (H : Hp) (p : Addr) (w s : Int) (L : Nat) : Prop := ∃ dx fs h vw, H p = some (.ins CS dx fs) ∧ Flds fs h s L ∧ HasherAt CH H h w ∧ Wd w ∧ fs.lookup ("words" : Str) = some vw ∧ Keys H vw (keysL w s L)
def spChains : Sp := fun vs H Q _ => ∃ (p : Addr) (w s L : Int), vs = [.ref p] ∧ PreS CH CS H p w s L ∧ ∀ H', Same H H' → Q (.int (nch w)) H'
def spKeyWords : Sp := fun vs H Q _ => ∃ (p : Addr) (w s L i : Int), vs = [.ref p, .int i] ∧ PreS CH CS H p w s L ∧ Nn i ∧ ∀ H' v, Same H H' → LsR LsI (Nw H H') v (keyL w s i) → Q v H'
def spWord : Sp := fun vs H Q _ => ∃ (p : Addr) (w s : Int) (L i c t : Nat), vs = [.ref p, .int i, .int c, .int t] ∧ PreW CH CS H p w s L ∧ i < 2 ^ L ∧ c < nch w ∧ t < 16 ∧ Q (.int (wd w s i c t)) H
def spTops : Sp := fun vs H Q _ => ∃ (p : Addr) (w s : Int) (L i : Nat), vs = [.ref p, .int i] ∧ PreW CH CS H p w s L ∧ Nn s ∧ i < 2 ^ L ∧ ∀ H' q, Same H H' → H q = none → H' q = some (.lst ((topsL w s i).map V.int)) → Q (.ref q) H'
def spSInit : Sp := fun vs H Q _ => ∃ (H0 : Hp) (p dx h : Addr) (w s : Int) (L : Nat), vs = [.ref p, .ref h, .int s, .int L] ∧ Same H0 H ∧ H0 p = none ∧ H p = some (.ins CS dx []) ∧ HasherAt CH H0 h w ∧ Wd w ∧ Nn s ∧ L ≤ 6 ∧
  ∀ H', Same H0 H' → SgIn CS (Nw H0 H') H' p h w s L → Q .non H'
def Tup (H : Hp) (g : Addr) (sg : List Int) : Prop := H g = some (.tup (sg.map V.int))
def spLevels : Sp := fun vs H Q _ => ∃ (h g : Addr) (w : Int) (sg : List Int), vs = [.ref h, .ref g] ∧ HasherAt CH H h w ∧ Wd w ∧ Tup H g sg ∧ 2 ≤ sg.length ∧ sg.length ≤ 100 ∧ ∀ H', Same H H' → Q (if shapeOk w sg = true then .int (lv w sg) else .non) H'
def spInputs : Sp := fun vs H Q _ => ∃ (h g : Addr) (w m : Int) (sg : List Int), vs = [.ref h, .int m, .ref g] ∧ HasherAt CH H h w ∧ Wd w ∧ Tup H g sg ∧ shapeOk w sg = true ∧ ∀ H' v, Same H H' → Ins (Nw H H') v (told w m sg) → Q v H'
def spVerify : Sp := fun vs H Q _ => ∃ (h g : Addr) (w m P : Int) (sg : List Int), vs = [.ref h, .int P, .int m, .ref g] ∧ HasherAt CH H h w ∧ Wd w ∧ Tup H g sg ∧ 2 ≤ sg.length ∧ sg.length ≤ 100 ∧ ∀ H', Same H H' → Q (.bl (shapeOk w sg && decide (lastD w m sg = P))) H'
def spTrue : Sp := fun vs H Q _ => ∃ (p : Addr) (w s : Int) (L i : Nat), vs = [.ref p, .int i] ∧ SignerAt CH CS H p w s L ∧ Wd w ∧ Nn s ∧ L ≤ 6 ∧ i < 2 ^ L ∧ ∀ H' v, Same H H' → Ins (Nw H H') v (tru w s L i) → Q v H'
def spMerged : Sp := fun vs H Q _ => ∃ (p : Addr) (w s d x : Int) (L i c : Nat), vs = [.ref p, .int i, .int c, .int d, .int x] ∧ SignerAt CH CS H p w s L ∧ Wd w ∧ L ≤ 6 ∧ i < 2 ^ L ∧ c < nch w ∧ 0 ≤ d ∧ d ≤ 15 ∧ Nn x ∧
  ∀ H' v, Same H H' → AnsR H' v (meet w s i c d x) → Q v H'
/-- the dict of what was signed -/
def SdAt (H : Hp) (d : Addr) (sd : List (Int × Int)) : Prop := H d = some (.dK (sd.map fun e => (Sum.inl e.1, V.int e.2)))
def spChainBreak : Sp := fun vs H Q _ => ∃ (p d g : Addr) (w s m : Int) (L : Nat) (sd : List (Int × Int)) (sg : List Int), vs = [.ref p, .ref d, .int m, .ref g] ∧ SignerAt CH CS H p w s L ∧ Wd w ∧ L ≤ 6 ∧ SdAt H d sd ∧ Tup H g sg ∧ shapeOk w sg = true ∧ sx sg 0 < 2 ^ L ∧
  ∀ H' v, Same H H' → AnsR H' v (chb w s sd m sg) → Q v H'
def spBreak : Sp := fun vs H Q _ => ∃ (p d g : Addr) (w s m : Int) (L : Nat) (sd : List (Int × Int)) (sg : List Int), vs = [.ref p, .ref d, .int m, .ref g] ∧ SignerAt CH CS H p w s L ∧ Wd w ∧ Nn s ∧ L ≤ 6 ∧ SdAt H d sd ∧ Tup H g sg ∧ 2 ≤ sg.length ∧ sg.length ≤ 100 ∧
  ∀ H' v, Same H H' → AnsR H' v (if validB w s L m sg = true then due w s L sd m sg else .non) → Q v H'
/-! the law's own -/
/-- the list b is not the one at a, or stands for ever -/
def Off (a b : Addr) (xs : List V) : Prop := b ≠ a ∨ ∀ G, SqL K G b xs
def StAt (H : Hp) (a : Addr) (i z : Int) : Prop := H a = some (.lst [.int i, .int z])
def spDraw : Sp := fun vs H Q _ => ∃ (a b : Addr) (i z n : Int) (ns : List Int), vs = [.ref a, .ref b, .int n] ∧ StAt H a i z ∧ SqL K H b (ns.map V.int) ∧ ns.length ≤ 63 ∧ Off K a b (ns.map V.int) ∧ 0 < n ∧ n < 1000000 ∧
  ∀ d i' z', 0 ≤ d → d < n → Q (.int d) (upd H a (.lst [.int i', .int z']))
def spLDigest : Sp := fun vs H Q _ => ∃ (a : Addr) (w t : Int) (ns : List Int), vs = [.int w, .int t, .ref a] ∧ Wd w ∧ Sq K H a ns ∧ Sm ns ∧ ∀ H', Same H H' → Q (.int (dig w t ns)) H'
def spLStep : Sp := fun vs H Q _ => ∃ w i c t x : Int, vs = [.int w, .int i, .int c, .int t, .int x] ∧ Wd w ∧ Nn i ∧ Nn c ∧ Nn t ∧ Nn x ∧ ∀ H', Same H H' → Q (.int (dig w 4 [i, c, t, x])) H'
def spLWords : Sp := fun vs H Q _ => ∃ w s i c : Int, vs = [.int w, .int s, .int i, .int c] ∧ Wd w ∧ Nn s ∧ Nn i ∧ Nn c ∧ ∀ H' p, Same H H' → H p = none → H' p = some (.lst ((chainL w s i c).map V.int)) → Q (.ref p) H'
def spLKeys : Sp := fun vs H Q _ => ∃ (w s : Int) (L : Nat), vs = [.int w, .int s, .int L] ∧ Wd w ∧ Nn s ∧ L ≤ 6 ∧ ∀ H' v, Same H H' → Keys (Nw H H') v (keysL w s L) → Q v H'
def spLRows : Sp := fun vs H Q _ => ∃ (w s : Int) (L : Nat) (vk : V), vs = [.int w, vk] ∧ Wd w ∧ Nn s ∧ L ≤ 6 ∧ Keys H vk (keysL w s L) ∧ ∀ H' v, Same H H' → Rows (Nw H H') v (rowsL w s L) → Q v H'
def spLPublic : Sp := fun vs H Q _ => ∃ (w s : Int) (L : Nat) (vr : V), vs = [.int w, vr] ∧ Wd w ∧ L ≤ 6 ∧ Rows H vr (rowsL w s L) ∧ ∀ H', Same H H' → Q (.int (pub w s L)) H'
def spLSigned : Sp := fun vs H Q _ => ∃ (w s m : Int) (L i : Nat) (vk vr : V), vs = [.int w, vk, vr, .int i, .int m] ∧ Wd w ∧ L ≤ 6 ∧ i < 2 ^ L ∧ Keys H vk (keysL w s L) ∧ Rows H vr (rowsL w s L) ∧
  ∀ H' p (sg : List Int), Same H H' → sg.length = 1 + nch w + L → H' p = some (.tup (sg.map V.int)) → Q (.ref p) H'
def spLInputs : Sp := fun vs H Q _ => ∃ (g : Addr) (w m : Int) (sg : List Int), vs = [.int w, .int m, .ref g] ∧ Wd w ∧ Tup H g sg ∧ shapeOk w sg = true ∧ ∀ H' v, Same H H' → Ins (Nw H H') v (told w m sg) → Q v H'
def spLValid : Sp := fun vs H Q _ => ∃ (g : Addr) (w m P : Int) (sg : List Int), vs = [.int w, .int P, .int m, .ref g] ∧ Wd w ∧ Tup H g sg ∧ 2 ≤ sg.length ∧ sg.length ≤ 100 ∧ ∀ H', Same H H' → Q (.bl (shapeOk w sg && decide (lastD w m sg = P))) H'
/-- all but the object at a is as it was -/
def But (a : Addr) (H H' : Hp) : Prop := ∀ b o, b ≠ a → H b = some o → H' b = some o
def spLForged : Sp := fun vs H Q _ => ∃ (a b : Addr) (i z w s m : Int) (L : Nat) (ns : List Int) (vk vr : V), vs = [.ref a, .ref b, .int w, vk, vr, .int m] ∧ StAt H a i z ∧ SqL K H b (ns.map V.int) ∧ ns.length ≤ 63 ∧ Off K a b (ns.map V.int) ∧ Wd w ∧ L ≤ 6 ∧
  Keys (hide H a) vk (keysL w s L) ∧ Rows (hide H a) vr (rowsL w s L) ∧ ∀ H' i' z' p (sg : List Int), But a H H' → StAt H' a i' z' → 2 ≤ sg.length → sg.length ≤ 100 → Tup H' p sg → Q (.ref p) H'
def spLTrue : Sp := fun vs H Q _ => ∃ (w s : Int) (L i : Nat) (vk vr : V), vs = [.int w, vk, vr, .int i] ∧ Wd w ∧ L ≤ 6 ∧ i < 2 ^ L ∧ Keys H vk (keysL w s L) ∧ Rows H vr (rowsL w s L) ∧ ∀ H' v, Same H H' → Ins (Nw H H') v (tru w s L i) → Q v H'
def spLMeeting : Sp := fun vs H Q _ => ∃ (w s d x : Int) (L i c : Nat) (vk : V), vs = [.int w, vk, .int i, .int c, .int d, .int x] ∧ Wd w ∧ L ≤ 6 ∧ i < 2 ^ L ∧ c < nch w ∧ 0 ≤ d ∧ d ≤ 15 ∧ Nn x ∧ Keys H vk (keysL w s L) ∧ ∀ H' v, Same H H' → AnsR H' v (meet w s i c d x) → Q v H'
def spLDue : Sp := fun vs H Q _ => ∃ (d g : Addr) (w s m : Int) (L : Nat) (sd : List (Int × Int)) (sg : List Int) (vk vr : V), vs = [.int w, vk, vr, .ref d, .int m, .ref g] ∧ Wd w ∧ L ≤ 6 ∧ Keys H vk (keysL w s L) ∧ Rows H vr (rowsL w s L) ∧ SdAt H d sd ∧ Tup H g sg ∧ validB w s L m sg = true ∧
  ∀ H' v, Same H H' → AnsR H' v (due w s L sd m sg) → Q v H'
def spLaw : Sp := fun vs H Q _ => ∃ (a : Addr) (ns : List Int), vs = [.ref a] ∧ SqL K H a (ns.map V.int) ∧ ns.length ≤ 63 ∧ ∀ H', Q (.bl true) H'
end
end K11
namespace K11
open PySem L2
section
variable {P : Program} {w : World} {K : PySem.W.Frag} {mg : Str → Option Value} {base : Heap} {CH CS : Addr} {f : Addr} {fd : FuncData}
theorem p32' : (4294967295 : Int) = 2 ^ 32 - 1 := by decide +kernel
theorem p64' : (18446744073709551615 : Int) = 2 ^ 64 - 1 := by decide +kernel
def num (σ : St) (j : Nat) : Nat := match σ[j]? with
  | some (some (.int m)) => m.toNat
  | _ => 0
theorem digs_pos {n : Int} (h : 0 < n) : digs n = (n % 4294967296) :: digs (n / 4294967296) := by
  rw [digs, if_pos h]
theorem digs_non {n : Int} (h : ¬ 0 < n) : digs n = [] := by
  rw [digs, if_neg h]
abbrev s_limbs_of : Stmt := top 9
theorem sc_limbs_of : FnScope ["numbers", "found", "number", "place"] ["numbers"] (defScope s_limbs_of) := ⟨rfl, rfl, rfl, by decide +kernel, rfl, by decide +kernel, by decide +kernel⟩
theorem ok_limbs_of (F : Fun K "limbs_of" "limbs_of" s_limbs_of f fd) (T : Tx K mg CH CS) : FnOk P w K mg base CX0 1 f fd ["numbers"] (spLimbs K) := by
  refine F.ok sc_limbs_of (fun vs H Q E h => ?_) (fun cdv A outer s H vs Q E hr h => ?_)
  · obtain ⟨a, ns, rfl, _⟩ := h
    rfl
  · obtain ⟨a, ns, rfl, hS, hm, k⟩ := h
    refine ⟨_, (pss_cons (ps_set (i := 1) sc_limbs_of.nd rfl (Or.inl rfl) (pe_lst (pa_cons (pe_callB call_len_seq (by rfl) T.len PySem.boot_len (pa_cons (pv 0) pa_nil)) pa_nil)))
        (pss_cons (ps_for PassesOwn.never rfl (pi_seq (pv 0)) (pg_name (i := 2) sc_limbs_of.nd rfl (by first | exact Or.inl rfl | exact Or.inr rfl))
          (pss_cons (ps_set (i := 3) sc_limbs_of.nd rfl (Or.inl rfl) (pe_callB call_len_seq (by rfl) T.len PySem.boot_len (pa_cons (pv 1) pa_nil)))
        (pss_cons (ps_expr (pe_bm PySem.F.plainAttrs_list PySem.F.slot_list_append PySem.F.type_list_append mt_append (pv 1) (pa_cons pe_int pa_nil)))
        (pss_one (ps_while PassesOwn.never (pt_cmpR op_gt (pv 2) pe_int (nomark _))
          (pss_cons (ps_expr (pe_bm PySem.F.plainAttrs_list PySem.F.slot_list_append PySem.F.type_list_append mt_append (pv 1) (pa_cons (pe_op op_andM (pv 2) (C8.pe_gc rfl T.gLIMB)) pa_nil)))
        (pss_cons (ps_augS (pv 1) (pv 3) get_list pe_int ip_add set_list)
        (pss_one (ps_set (i := 2) sc_limbs_of.nd rfl (Or.inl rfl) (pe_op op_shr (pv 2) pe_int))))))))))
        (pss_one (ps_ret (pv 1))))), ?_⟩
    refine ⟨_, rfl, a, _, rfl, hS, (by show 1 ≤ sizeLine; decide), fun p hp => ?_⟩
    refine ⟨a, ns.map V.int, H, rfl, Same.new hp, hS, fun J G wk hG => for_it wk (fun i σ H' => Same H H' ∧ ∃ v2 v3, σ = [some (.ref a), some (.ref p), v2, v3] ∧ H' p = some (.lst ((((ns.length : Int)) :: (ns.take i).flatMap lm).map V.int)))
      ⟨Same.new hp, _, _, rfl, ?_⟩ (fun i σ H' _ h => hG _ h.1) ?_ ?_⟩
    · rw [upd_same, List.length_map]
      rfl
    · rintro i x σ H1 H2 hi ⟨s1, v2, v3, rfl, hL⟩ ⟨rfl, hx⟩
      obtain ⟨n, hn, rfl⟩ := int_of hx
      have hle : ((ns.length : Int) :: (ns.take i).flatMap lm).length ≤ 501 := by
        have a1 := flat_len (ns.take i) fun m hm' => hm.2 m (List.mem_of_mem_take hm')
        have a2 := hm.1
        have a3 := List.length_take_le i ns
        have a4 : (ns.take i).length ≤ ns.length := by rw [List.length_take]; omega
        rw [List.length_cons]
        omega
      have hn4 := digs_len4 (hm.2 n (List.mem_of_getElem? hn))
      generalize hA : ((ns.length : Int) :: (ns.take i).flatMap lm) = A at *
      refine ⟨_, rfl, p, _, rfl, .inl (SqL.of hL), ?_⟩
      refine ⟨_, rfl, .inl ⟨rfl, _, SqL.of hL⟩, p, _, _, rfl, rfl, hL, sz2 (by rw [List.length_map]; omega), ?_⟩
      refine while_by (fun σ H' => Same H H' ∧ ∃ (m : Int) (ds : List Int), σ = [some (.ref a), some (.ref p), some (.int m), some (.int A.length)] ∧ H' p = some (.lst ((A ++ (ds.length : Int) :: ds).map V.int)) ∧ ds ++ digs m = digs n)
        (fun σ _ => num σ 2) ⟨Same.put s1 hp, n, [], ?_, ?_, rfl⟩ ?_ ?_
      · rw [List.length_map]
        rfl
      · rw [upd_same, List.map_append]
        rfl
      · rintro σ H3 ⟨s3, m, ds, rfl, hL3, hd⟩
        (refine ⟨_, rfl, _, _, rfl, rfl, _, rfl, ?_⟩)
        refine ite2 (fun hpos => ?_) (fun hneg => ?_)
        · have hpos : 0 < m := of_decide_eq_true hpos
          have hlen : ds.length ≤ 3 := by
            rw [digs_pos hpos] at hd
            have := congrArg List.length hd
            rw [List.length_append, List.length_cons] at this
            omega
          refine ⟨_, rfl, .inl ⟨rfl, _, SqL.of hL3⟩, _, rfl, m, 32, rfl, congrArg V.int p32', p, _, _, rfl, rfl, hL3, sz2 (by simp; omega), ?_⟩
          refine ⟨_, rfl, _, rfl, p, _, A.length, .int ds.length, rfl, rfl, SqL.of upd_same, ?_, _, _, rfl, rfl, p, _, _, A.length, rfl, rfl, upd_same, ?_, ?_⟩
          · simp
          · rw [ixN]
            simp
            omega
          · refine ⟨_, rfl, _, _, rfl, rfl, (by show (0 : Int) ≤ 32; decide), ?_⟩
            refine ⟨⟨?_, m / 4294967296, ds ++ [m % 4294967296], ?_, ?_, ?_⟩, ?_⟩
            · rw [upd_upd]
              exact Same.put s3 hp
            · rfl
            · rw [upd_same, p32]
              simp
            · rw [← hd, digs_pos hpos]
              simp
            · show (m / 4294967296).toNat < m.toNat
              omega
        · have hneg : ¬ 0 < m := fun z => hneg (decide_eq_true z)
          refine ⟨s3, _, _, rfl, ?_⟩
          rw [digs_non hneg, List.append_nil] at hd
          rw [hL3, hd, take_next hn, List.flatMap_append, ← List.cons_append, hA]
          simp [lm]
      · intro σ H Q Q' hQ h
        obtain ⟨x, e, i', j', e1, e2, c, e3, q⟩ := h
        exact ⟨x, e, i', j', e1, e2, c, e3, hQ _ _ q⟩
    · rintro σ H1 ⟨s1, v2, v3, rfl, hL⟩
      refine ⟨_, rfl, k _ p s1 hp ?_⟩
      rw [hL, List.length_map, List.take_of_length_le (Nat.le_refl _)]
      rfl
end
end K11
namespace K11
open PySem L2
section
variable {P : Program} {w : World} {K : PySem.W.Frag} {mg : Str → Option Value} {base : Heap} {CH CS : Addr} {f : Addr} {fd : FuncData}
theorem mONE {i : Int} : CMul i 15241578750190521011 := .inr ⟨by decide +kernel, by decide +kernel⟩
theorem mOTHER {i : Int} : CMul i 9764318250173649287 := .inr ⟨by decide +kernel, by decide +kernel⟩
theorem sq_mono {H H' : Hp} {a : Addr} {ns : List Int} (s : Same H H') (h : Sq K H a ns) : Sq K H' a ns := h.elim (fun z => .inl (s.seq z)) fun z => .inr (sqT_mono s z)
theorem pow64 {x : Int} (h0 : 0 ≤ x) (h1 : x < 2 ^ 64) : CPow x 64 := by
  refine ⟨by decide, by decide, ?_⟩
  rw [p64] at h1
  have e : (2 : Nat) ^ 64 = 18446744073709551616 := by decide +kernel
  rw [e]
  omega
theorem fold_next {ls : List Int} {i : Nat} {l : Int} {p : Int × Int} (h : ls[i]? = some l) : (ls.take (i + 1)).foldl rd p = rd ((ls.take i).foldl rd p) l := by
  rw [take_next h, List.foldl_append]
  rfl
abbrev s_Hasher_init : Stmt := inClass (top 10) 0
theorem sc_Hasher_init : FnScope ["self", "width"] ["self", "width"] (defScope s_Hasher_init) := ⟨rfl, rfl, rfl, by decide +kernel, rfl, by decide +kernel, by decide +kernel⟩
theorem ok_Hasher_init (F : Fun K "__init__" "Hasher.__init__" s_Hasher_init f fd) (T : Tx K mg CH CS) : FnOk P w K mg base CX0 1 f fd ["self", "width"] (spHInit CH) := by
  refine F.ok sc_Hasher_init (fun vs H Q E h => ?_) (fun cdv A outer s H vs Q E hr h => ?_)
  · obtain ⟨p, dx, z, rfl, _⟩ := h
    rfl
  · obtain ⟨p, dx, z, rfl, hp, k⟩ := h
    refine ⟨_, (pss_one (ps_fld (pv 0) (pv 1) rfl)), ?_⟩
    exact ⟨_, rfl, _, rfl, p, CH, dx, [], rfl, hp, T.cH, T.nH, by decide, k⟩
abbrev s_Hasher_digest : Stmt := inClass (top 10) 1
theorem sc_Hasher_digest : FnScope ["self", "tag", "numbers", "first", "second", "limb"] ["self", "tag", "numbers"] (defScope s_Hasher_digest) := ⟨rfl, rfl, rfl, by decide +kernel, rfl, by decide +kernel, by decide +kernel⟩
theorem ok_Hasher_digest (F : Fun K "digest" "Hasher.digest" s_Hasher_digest f fd) (T : Tx K mg CH CS) (c_limbs_of : C8.Cal P w K mg base 1 "limbs_of" (spLimbs K) []) : FnOk P w K mg base CX0 2 f fd ["self", "tag", "numbers"] (spDigest K CH) := by
  refine F.ok sc_Hasher_digest (fun vs H Q E h => ?_) (fun cdv A outer s H vs Q E hr h => ?_)
  · obtain ⟨p, a, z, t, ns, rfl, _⟩ := h
    rfl
  · obtain ⟨p, a, z, t, ns, rfl, ⟨dx, hP⟩, hz, hS, hm, k⟩ := h
    refine ⟨_, (pss_cons (ps_set (i := 3) sc_Hasher_digest.nd rfl (Or.inl rfl) (C8.pe_gc rfl T.gFIRST))
        (pss_cons (ps_set (i := 4) sc_Hasher_digest.nd rfl (Or.inl rfl) (C8.pe_gc rfl T.gSECOND))
        (pss_cons (ps_for PassesOwn.never rfl (pi_list (pe_op op_cat (pe_op op_cat (pe_lst (pa_cons (pv 1) pa_nil)) (C8.pe_c c_limbs_of hr (by decide) rfl (pa_cons (pv 2) pa_nil))) (pe_lst (pa_cons (pe_fld (pv 0) rfl) (pa_cons (pe_fld (pv 0) rfl) pa_nil))))) (pg_name (i := 5) sc_Hasher_digest.nd rfl (by first | exact Or.inl rfl | exact Or.inr rfl))
          (pss_cons (ps_set (i := 3) sc_Hasher_digest.nd rfl (Or.inl rfl) (pe_op op_andM (pe_op op_mul (pe_op op_xor (pv 3) (pv 5)) (C8.pe_gc rfl T.gONE)) (C8.pe_gc rfl T.gMASK)))
        (pss_cons (ps_set (i := 3) sc_Hasher_digest.nd rfl (Or.inl rfl) (pe_op op_xor (pv 3) (pe_op op_shr (pv 3) pe_int)))
        (pss_cons (ps_set (i := 4) sc_Hasher_digest.nd rfl (Or.inl rfl) (pe_op op_andM (pe_op op_mul (pe_op op_add (pv 4) (pv 3)) (C8.pe_gc rfl T.gOTHER)) (C8.pe_gc rfl T.gMASK)))
        (pss_cons (ps_set (i := 4) sc_Hasher_digest.nd rfl (Or.inl rfl) (pe_op op_xor (pv 4) (pe_op op_shr (pv 4) pe_int)))
        (pss_one (ps_set (i := 3) sc_Hasher_digest.nd rfl (Or.inl rfl) (pe_op op_andM (pe_op op_add (pv 3) (pv 4)) (C8.pe_gc rfl T.gMASK)))))))))
        (pss_one (ps_ret (pe_op op_shr (pe_op op_orL (pe_op op_shl (pv 3) pe_int) (pv 4)) (pe_op op_sub (C8.pe_gc rfl T.gWHOLE) (pe_fld (pv 0) rfl)))))))), ?_⟩
    have hl := limbs_len hm
    refine ⟨_, rfl, (by show 1 ≤ sizeLine; decide), fun p1 n1 => ⟨_, rfl, a, ns, rfl, sq_mono (Same.new n1) hS, hm, fun H2 p2 s2 n2 h2 => ?_⟩⟩
    have s02 := (Same.new n1).trans s2
    refine ⟨p1, p2, _, _, rfl, rfl, s2 _ _ upd_same, h2, sz1 (by simp; omega), fun p3 n3 => ?_⟩
    obtain ⟨H3, e3⟩ : ∃ H3, H3 = upd H2 p3 (.lst ([V.int t] ++ (limbs ns).map V.int)) := ⟨_, rfl⟩
    rw [← e3]
    have s03 : Same H H3 := by rw [e3]; exact s02.trans (Same.new n3)
    have h3 : H3 p3 = some (.lst ([V.int t] ++ (limbs ns).map V.int)) := by rw [e3]; exact upd_same
    have hP3 := s03 _ _ hP
    refine ⟨_, rfl, p, CH, dx, _, _, rfl, hP3, T.cH, T.nH, rfl, _, rfl, p, CH, dx, _, _, rfl, hP3, T.cH, T.nH, rfl, (by show 2 ≤ sizeLine; decide), fun p4 n4 => ?_⟩
    refine ⟨p3, p4, _, _, rfl, rfl, Same.new n4 _ _ h3, upd_same, sz1 (by simp; omega), fun p5 n5 => ?_⟩
    obtain ⟨H5, e5⟩ : ∃ H5, H5 = upd (upd H3 p4 (.lst [V.int z, V.int z])) p5 (.lst (([V.int t] ++ (limbs ns).map V.int) ++ [V.int z, V.int z])) := ⟨_, rfl⟩
    rw [← e5]
    have h5 : H5 p5 = some (.lst ((t :: limbs ns ++ [z, z]).map V.int)) := by
      rw [e5, upd_same, List.map_append]
      rfl
    have s05 : Same H H5 := by rw [e5]; exact (s03.trans (Same.new n4)).trans (Same.new n5)
    have hP5 := s05 _ _ hP
    refine ⟨p5, rfl, ⟨_, SqL.of h5⟩, for_list (K := K) (a := p5) (xs := (t :: limbs ns ++ [z, z]).map V.int) (fun i σ H' => H' = H5 ∧ ∃ v, σ = [some (.ref p), some (.int t), some (.ref a), some (.int ((t :: limbs ns ++ [z, z]).take i |>.foldl rd start2).1), some (.int ((t :: limbs ns ++ [z, z]).take i |>.foldl rd start2).2), v])
      ⟨rfl, none, rfl⟩ (fun i σ H' _ h => by rw [h.1]; exact SqL.of h5) ?_ ?_⟩
    · rintro i x σ H' hi ⟨rfl, v, rfl⟩
      obtain ⟨l, hl', rfl⟩ := int_of hi
      rw [fold_next hl']
      generalize ((t :: limbs ns ++ [z, z]).take i).foldl rd start2 = q
      refine ⟨_, rfl, _, rfl, _, _, rfl, rfl, _, _, rfl, rfl, mONE, _, 64, rfl, congrArg V.int p64', ?_⟩
      refine ⟨_, rfl, _, rfl, _, _, rfl, rfl, (by show (0 : Int) ≤ 31; decide), _, _, rfl, rfl, ?_⟩
      refine ⟨_, rfl, _, rfl, _, _, rfl, rfl, _, _, rfl, rfl, mOTHER, _, 64, rfl, congrArg V.int p64', ?_⟩
      refine ⟨_, rfl, _, rfl, _, _, rfl, rfl, (by show (0 : Int) ≤ 29; decide), _, _, rfl, rfl, ?_⟩
      refine ⟨_, rfl, _, rfl, _, _, rfl, rfl, _, 64, rfl, congrArg V.int p64', ?_⟩
      exact ⟨rfl, _, rfl⟩
    · rintro σ H' ⟨rfl, v, rfl⟩
      rw [List.length_map, List.take_of_length_le (Nat.le_refl _)]
      have ok := fold_ok (t :: limbs ns ++ [z, z]) start2 start2_ok
      refine ⟨_, rfl, _, _, rfl, rfl, pow64 ok.1.1 ok.1.2, _, rfl, _, _, 64, rfl, rfl, ⟨ok.1.1, ok.2.1, ok.2.2⟩, ?_⟩
      refine ⟨_, rfl, p, CH, dx, _, _, rfl, hP5, T.cH, T.nH, rfl, _, _, rfl, rfl, _, _, rfl, rfl, ?_, ?_⟩
      · have := hz.hi
        show (0 : Int) ≤ 128 - z
        omega
      · exact k _ s05
abbrev s_Hasher_is_digest : Stmt := inClass (top 10) 2
theorem sc_Hasher_is_digest : FnScope ["self", "number"] ["self", "number"] (defScope s_Hasher_is_digest) := ⟨rfl, rfl, rfl, by decide +kernel, rfl, by decide +kernel, by decide +kernel⟩
theorem ok_Hasher_is_digest (F : Fun K "is_digest" "Hasher.is_digest" s_Hasher_is_digest f fd) (T : Tx K mg CH CS) : FnOk P w K mg base CX0 1 f fd ["self", "number"] (spIsDig CH) := by
  refine F.ok sc_Hasher_is_digest (fun vs H Q E h => ?_) (fun cdv A outer s H vs Q E hr h => ?_)
  · obtain ⟨p, z, n, rfl, _⟩ := h
    rfl
  · obtain ⟨p, z, n, rfl, ⟨dx, hP⟩, hz, k⟩ := h
    refine ⟨_, (pss_one (ps_ret (pe_chain op_le op_lt pe_int (pv 1) (pe_op op_shl pe_int (pe_fld (pv 0) rfl))))), ?_⟩
    have h1 := hz.hi
    have h2 := hz.lo
    (refine ⟨_, rfl, _, _, rfl, rfl, _, rfl, ?_⟩)
    refine ite2 (fun h => ?_) (fun h => ?_)
    · have h := of_decide_eq_true h
      refine ⟨_, rfl, p, CH, dx, _, _, rfl, hP, T.cH, T.nH, rfl, _, _, rfl, rfl, ⟨by omega, by omega, by show (1 : Int).natAbs < 2 ^ 64; decide +kernel⟩, _, _, rfl, rfl, ?_⟩
      have e : decide (n < 1 * 2 ^ z.toNat) = decide (0 ≤ n ∧ n < 2 ^ z.toNat) := by
        rw [Int.one_mul]
        by_cases q : n < 2 ^ z.toNat
        · rw [decide_eq_true q, decide_eq_true ⟨h, q⟩]
        · rw [decide_eq_false q, decide_eq_false fun y => q y.2]
      show Q (V.bl (decide (n < 1 * 2 ^ z.toNat))) _
      rw [e]
      exact k
    · have h : ¬ 0 ≤ n := fun y => h (decide_eq_true y)
      rw [decide_eq_false fun y => h y.1] at k
      exact k
abbrev s_collision : Stmt := top 11
theorem sc_collision : FnScope ["first", "second"] ["first", "second"] (defScope s_collision) := ⟨rfl, rfl, rfl, by decide +kernel, rfl, by decide +kernel, by decide +kernel⟩
theorem ok_collision (F : Fun K "collision" "collision" s_collision f fd) (T : Tx K mg CH CS) : FnOk P w K mg base CX0 1 f fd ["first", "second"] spColl := by
  refine F.ok sc_collision (fun vs H Q E h => ?_) (fun cdv A outer s H vs Q E hr h => ?_)
  · obtain ⟨va, vb, a, b, rfl, _⟩ := h
    rfl
  · obtain ⟨va, vb, a, b, rfl, ⟨a1, a2, rfl, ha1, ha2⟩, ⟨b1, b2, rfl, hb1, hb2⟩, k⟩ := h
    refine ⟨_, (pss_one (ps_ret (pe_tup (pa_cons pe_str (pa_cons (pe_tup (pa_cons (pe_ix ix_tup (pv 0) pe_int (fun _ _ => rfl)) (pa_cons (pe_callTy call_tupleT (by rfl) T.tuple (by decide +kernel) (pa_cons (pe_ix ix_tup (pv 0) pe_int (fun _ _ => rfl)) pa_nil)) pa_nil))) (pa_cons (pe_tup (pa_cons (pe_ix ix_tup (pv 1) pe_int (fun _ _ => rfl)) (pa_cons (pe_callTy call_tupleT (by rfl) T.tuple (by decide +kernel) (pa_cons (pe_ix ix_tup (pv 1) pe_int (fun _ _ => rfl)) pa_nil)) pa_nil))) pa_nil)))))), ?_⟩
    refine ⟨_, rfl, a1, _, (0 : Nat), _, rfl, rfl, SqT.of ha1, atI_nat rfl, _, rfl, a1, _, (1 : Nat), _, rfl, rfl, SqT.of ha1, atI_nat rfl, a2, _, rfl, SqT.of ha2, (by show 2 ≤ sizeLine; decide), fun p1 n1 => ?_⟩
    have hb1' := fun o => Same.new (o := o) n1 _ _ hb1
    have hb2' := fun o => Same.new (o := o) n1 _ _ hb2
    refine ⟨_, rfl, b1, _, (0 : Nat), _, rfl, rfl, SqT.of (hb1' _), atI_nat rfl, _, rfl, b1, _, (1 : Nat), _, rfl, rfl, SqT.of (hb1' _), atI_nat rfl, b2, _, rfl, SqT.of (hb2' _), (by show 2 ≤ sizeLine; decide), fun p2 n2 => ?_⟩
    refine ⟨by show 3 ≤ sizeLine; decide, fun p3 n3 => ?_⟩
    exact k _ _ ((Same.new n1).trans ((Same.new n2).trans (Same.new n3))) ⟨p3, _, _, rfl, upd_same, ⟨p1, a2, rfl, ((Same.new n2).trans (Same.new n3)) _ _ upd_same, ((Same.new n2).trans (Same.new n3)) _ _ (Same.new n1 _ _ ha2)⟩, ⟨p2, b2, rfl, Same.new n3 _ _ upd_same, ((Same.new n2).trans (Same.new n3)) _ _ (hb2' _)⟩⟩
abbrev s_is_input : Stmt := top 12
theorem sc_is_input : FnScope ["answer", "tag", "numbers", "number"] ["answer"] (defScope s_is_input) := ⟨rfl, rfl, rfl, by decide +kernel, rfl, by decide +kernel, by decide +kernel⟩
theorem ok_is_input (F : Fun K "is_input" "is_input" s_is_input f fd) (T : Tx K mg CH CS) : FnOk P w K mg base CX0 1 f fd ["answer"] spIsInput := by
  refine F.ok sc_is_input (fun vs H Q E h => ?_) (fun cdv A outer s H vs Q E hr h => ?_)
  · obtain ⟨va, a, rfl, _⟩ := h
    rfl
  · obtain ⟨va, a, rfl, ⟨a1, a2, rfl, ha1, ha2⟩, ⟨⟨t0, t1⟩, hlen, hn⟩, k⟩ := h
    refine ⟨_, (pss_cons (ps_asg (pv 0) (pg_tup rfl (pgs_cons (pg_name (i := 1) sc_is_input.nd rfl (by first | exact Or.inl rfl | exact Or.inr rfl)) (pgs_cons (pg_name (i := 2) sc_is_input.nd rfl (by first | exact Or.inl rfl | exact Or.inr rfl)) pgs_nil))))
        (pss_one (ps_ret (pe_and (pe_chain op_le op_lt pe_int (pv 1) pe_int) (pe_one (pe_callB (cr_all rfl) (by rfl) T.all (by decide +kernel) (pa_cons (pe_lc (own := [("number", 3)]) (g := gName 3) (tt := tYes) rfl sc_is_input.nd (pi_tup (pv 2)) (blkOk_by (N := ["answer", "tag", "numbers", "number"]) (sc := defScope s_is_input) (by decide +kernel)) (fun _ _ _ _ _ => (pg_name (i := 3) sc_is_input.nd rfl (by first | exact Or.inl rfl | exact Or.inr rfl))) (fun _ _ _ _ _ => pts_nil) (fun _ _ _ _ _ => (pe_cmpR op_ge (pv 3) pe_int (nomark _)))) pa_nil))))))), ?_⟩
    refine ⟨_, rfl, a1, _, rfl, SqT.of ha1, rfl, _, _, rfl, _, _, rfl, rfl, ?_⟩
    (refine ⟨_, rfl, _, _, rfl, rfl, _, rfl, ?_⟩)
    rw [decide_eq_true t0]
    refine iteT ⟨_, _, rfl, rfl, true, congrArg V.bl (decide_eq_true t1), iteT ?_⟩
    refine ⟨_, rfl, a2, rfl, ⟨_, SqT.of ha2⟩, fun D hD => lc_tup (K := K) (a := a2) (xs := a.2.map V.int) (fun i H' => Same H H' ∧ H' D = some (.lst ((List.replicate i true).map V.bl))) ⟨Same.new hD, upd_same⟩ (fun i H' _ h => SqT.of (h.1 _ _ ha2)) ?_ ?_⟩
    · rintro i x H' hi ⟨s1, h1⟩
      obtain ⟨n, hn', rfl⟩ := int_of hi
      have hi' := (List.getElem?_eq_some_iff.mp hn').1
      refine ⟨rfl, _, rfl, _, _, rfl, rfl, _, h1, sz2 (by simp; omega), Same.put s1 hD, ?_⟩
      have e : decide (n ≥ 0) = true := decide_eq_true (hn n (List.mem_of_getElem? hn')).1
      rw [upd_same, List.replicate_succ', List.map_append]
      show some (HO.lst (_ ++ [V.bl (decide (n ≥ 0))])) = _
      rw [e]
      rfl
    · rintro H' ⟨s1, h1⟩
      refine ⟨D, _, rfl, SqL.of h1, ?_⟩
      rw [show (List.replicate (List.map V.int a.2).length true).all id = true from List.all_eq_true.mpr fun x hx => List.eq_of_mem_replicate hx]
      exact k _ s1
end
end K11
namespace K11
open PySem L2
section
variable {P : Program} {w : World} {K : PySem.W.Frag} {mg : Str → Option Value} {base : Heap} {CH CS : Addr} {f : Addr} {fd : FuncData}
theorem rng_snoc {g : Nat → Int} {i : Nat} : (((List.range i).map g).map V.int) ++ [V.int (g i)] = ((List.range (i + 1)).map g).map V.int := by
  rw [List.range_succ, List.map_append, List.map_append]
  rfl
/-- one more item of a list of ints that is being made -/
theorem put_int {H0 H : Hp} {D : Addr} {g : Nat → Int} {i : Nat} {x : V} (s : Same H0 H) (hD : H0 D = none) (e : x = V.int (g i)) :
    Same H0 (upd H D (.lst ((((List.range i).map g).map V.int) ++ [x]))) ∧ upd H D (.lst ((((List.range i).map g).map V.int) ++ [x])) D = some (.lst (((List.range (i + 1)).map g).map V.int)) := by
  subst e
  refine ⟨Same.put s hD, ?_⟩
  rw [upd_same, rng_snoc]
theorem cnt_eq {z : Int} (h : Wd z) : (z + 3) / 4 = (cnt z : Int) := by
  have := h.lo
  unfold cnt
  omega
theorem m15 : (15 : Int) = 2 ^ 4 - 1 := by decide
theorem cmul4 {i : Int} : CMul 4 i := .inl ⟨by decide +kernel, by decide +kernel⟩
theorem four (j : Nat) : (4 * (0 + (j : Int))).toNat = 4 * j := by omega
theorem shr4 (m : Int) (j : Nat) : m / 2 ^ (4 * (0 + (j : Int))).toNat % 2 ^ 4 = m / 2 ^ (4 * j) % 16 := by
  rw [four]
  rfl
theorem n62 {n : Nat} (h : n ≤ 1000) : -(2 ^ 62) ≤ (n : Int) ∧ (n : Int) < 2 ^ 62 := by
  have : (2 : Int) ^ 62 = 4611686018427387904 := by decide +kernel
  omega
abbrev s_digit_counts : Stmt := top 21
theorem sc_digit_counts : FnScope ["width", "count", "check"] ["width"] (defScope s_digit_counts) := ⟨rfl, rfl, rfl, by decide +kernel, rfl, by decide +kernel, by decide +kernel⟩
theorem ok_digit_counts (F : Fun K "digit_counts" "digit_counts" s_digit_counts f fd) (T : Tx K mg CH CS) : FnOk P w K mg base CX0 1 f fd ["width"] spCounts := by
  refine F.ok sc_digit_counts (fun vs H Q E h => ?_) (fun cdv A outer s H vs Q E hr h => ?_)
  · obtain ⟨z, rfl, _⟩ := h
    rfl
  · obtain ⟨z, rfl, hz, k⟩ := h
    refine ⟨_, (pss_cons (ps_set (i := 1) sc_digit_counts.nd rfl (Or.inl rfl) (pe_op op_fdiv (pe_op op_add (pv 0) pe_int) pe_int))
        (pss_cons (ps_set (i := 2) sc_digit_counts.nd rfl (Or.inl rfl) pe_int)
        (pss_cons (ps_while PassesOwn.never (pt_cmpR op_ge (pe_op op_mul (pe_op op_sub (C8.pe_gc rfl T.gBASE) pe_int) (pv 1)) (pe_op op_shl pe_int (pe_op op_mul pe_int (pv 2))) (nomark _))
          (pss_one (ps_aug (i := 2) sc_digit_counts.nd rfl (Or.inl rfl) pe_int ip_add)))
        (pss_one (ps_ret (pe_tup (pa_cons (pv 1) (pa_cons (pv 2) pa_nil)))))))), ?_⟩
    obtain ⟨c1, c4, _⟩ := hz.cnt
    refine ⟨_, rfl, _, _, rfl, rfl, _, _, rfl, rfl, ⟨by decide, by decide⟩, ?_⟩
    refine while_by (fun σ H' => H' = H ∧ ∃ c : Nat, σ = [some (.int z), some (.int ((z + 3) / 4)), some (.int c)] ∧ 1 ≤ c ∧ c ≤ chk z) (fun σ _ => 2 - num σ 2) ⟨rfl, 1, rfl, Nat.le_refl _, (Wd.chk hz).1⟩ ?_ ?_
    · rintro σ H' ⟨rfl, c, rfl, hc1, hc2⟩
      have hc3 := (Wd.chk hz).2
      refine ⟨_, _, rfl, rfl, _, rfl, _, _, rfl, rfl, .inl ⟨by decide +kernel, by decide +kernel⟩, _, rfl, _, _, rfl, rfl, cmul4, _, _, rfl, rfl, ⟨by omega, by omega, by decide +kernel⟩, _, _, rfl, rfl, _, rfl, ?_⟩
      have e1 : (1 : Int) * 2 ^ (4 * ((1 : Nat) : Int)).toNat = 16 := by decide
      have e2 : (1 : Int) * 2 ^ (4 * ((2 : Nat) : Int)).toNat = 256 := by decide
      refine ite2 (fun h => ?_) (fun h => ?_)
      · have h : (16 - 1) * ((z + 3) / 4) ≥ 1 * 2 ^ (4 * (c : Int)).toNat := of_decide_eq_true h
        rw [cnt_eq hz] at h
        have h2 : c = 1 := by
          rcases (show c = 1 ∨ c = 2 by omega) with rfl | rfl
          · rfl
          · rw [e2] at h
            omega
        subst h2
        rw [e1] at h
        refine ⟨_, rfl, _, _, rfl, rfl, ⟨rfl, 2, rfl, by decide, ?_⟩, by show 2 - (((1 : Nat) : Int) + 1).toNat < 2 - ((1 : Nat) : Int).toNat; decide⟩
        unfold chk
        rw [if_neg (by omega)]
        exact Nat.le_refl _
      · have h : ¬ (16 - 1) * ((z + 3) / 4) ≥ 1 * 2 ^ (4 * (c : Int)).toNat := fun y => h (decide_eq_true y)
        rw [cnt_eq hz] at h
        have h2 : c = chk z := by
          rcases (show c = 1 ∨ c = 2 by omega) with rfl | rfl
          · rw [e1] at h
            unfold chk
            rw [if_pos (by omega)]
          · omega
        refine ⟨_, rfl, _, rfl, by show 2 ≤ sizeLine; decide, fun p hp => ?_⟩
        show Q (.ref p) (upd H' p (.tup [.int ((z + 3) / 4), .int c]))
        rw [cnt_eq hz, h2]
        exact k p hp
    · intro σ H Q Q' hQ h
      obtain ⟨x1, x2, e1, e2, x3, e3, x4, x5, e4, e5, c, x6, e6, x7, x8, e7, e8, c2, x9, x10, e9, e10, c3, x11, x12, e11, e12, b, eb, q⟩ := h
      exact ⟨x1, x2, e1, e2, x3, e3, x4, x5, e4, e5, c, x6, e6, x7, x8, e7, e8, c2, x9, x10, e9, e10, c3, x11, x12, e11, e12, b, eb, hQ _ _ q⟩
abbrev s_digits_of : Stmt := top 22
theorem sc_digits_of : FnScope ["width", "message", "count", "check", "digits", "rest", "k", "digit"] ["width", "message"] (defScope s_digits_of) := ⟨rfl, rfl, rfl, by decide +kernel, rfl, by decide +kernel, by decide +kernel⟩
theorem ok_digits_of (F : Fun K "digits_of" "digits_of" s_digits_of f fd) (T : Tx K mg CH CS) (c_digit_counts : C8.Cal P w K mg base 1 "digit_counts" spCounts []) : FnOk P w K mg base CX0 2 f fd ["width", "message"] spDigits := by
  refine F.ok sc_digits_of (fun vs H Q E h => ?_) (fun cdv A outer s H vs Q E hr h => ?_)
  · obtain ⟨z, m, rfl, _⟩ := h
    rfl
  · obtain ⟨z, m, rfl, hz, k⟩ := h
    refine ⟨_, (pss_cons (ps_asg (C8.pe_c c_digit_counts hr (by decide) rfl (pa_cons (pv 0) pa_nil)) (pg_tup rfl (pgs_cons (pg_name (i := 2) sc_digits_of.nd rfl (by first | exact Or.inl rfl | exact Or.inr rfl)) (pgs_cons (pg_name (i := 3) sc_digits_of.nd rfl (by first | exact Or.inl rfl | exact Or.inr rfl)) pgs_nil))))
        (pss_cons (ps_setLc (i := 4) (own := [("k", 6)]) (g := gName 6) (tt := tYes) rfl sc_digits_of.nd rfl rfl (sw_true rfl rfl rfl (by decide +kernel)) (pi_range1 rfl T.range (pa_cons (pv 2) pa_nil)) (blkOk_by (N := ["width", "message", "count", "check", "digits", "rest", "k", "digit"]) (sc := defScope s_digits_of) (by decide +kernel)) (fun _ _ _ _ _ => (pg_name (i := 6) sc_digits_of.nd rfl (by first | exact Or.inl rfl | exact Or.inr rfl))) (fun _ _ _ _ _ => pts_nil) (fun _ _ _ _ _ => (pe_op op_andM (pe_op op_shr (pv 1) (pe_op op_mul pe_int (pv 6))) pe_int)))
        (pss_cons (ps_set (i := 5) sc_digits_of.nd rfl (Or.inr rfl) (pe_callB (cr_sum rfl) (by rfl) T.sum (by decide +kernel) (pa_cons (pe_lc (own := [("digit", 7)]) (g := gName 7) (tt := tYes) rfl sc_digits_of.nd (pi_list (pv 4)) (blkOk_by (N := ["width", "message", "count", "check", "digits", "rest", "k", "digit"]) (sc := defScope s_digits_of) (by decide +kernel)) (fun _ _ _ _ _ => (pg_name (i := 7) sc_digits_of.nd rfl (by first | exact Or.inl rfl | exact Or.inr rfl))) (fun _ _ _ _ _ => pts_nil) (fun _ _ _ _ _ => (pe_op op_sub (pe_op op_sub (C8.pe_gc rfl T.gBASE) pe_int) (pv 7)))) pa_nil)))
        (pss_one (ps_ret (pe_op op_cat (pv 4) (pe_lc (own := [("k", 6)]) (g := gName 6) (tt := tYes) rfl sc_digits_of.nd (pi_range1 rfl T.range (pa_cons (pv 3) pa_nil)) (blkOk_by (N := ["width", "message", "count", "check", "digits", "rest", "k", "digit"]) (sc := defScope s_digits_of) (by decide +kernel)) (fun _ _ _ _ _ => (pg_name (i := 6) sc_digits_of.nd rfl (by first | exact Or.inl rfl | exact Or.inr rfl))) (fun _ _ _ _ _ => pts_nil) (fun _ _ _ _ _ => (pe_op op_andM (pe_op op_shr (pv 5) (pe_op op_mul pe_int (pv 6))) pe_int))))))))), ?_⟩
    obtain ⟨c1, c4, _⟩ := hz.cnt
    obtain ⟨k1, k2⟩ := Wd.chk hz
    refine ⟨_, rfl, z, rfl, hz, fun p1 n1 => ?_⟩
    refine ⟨p1, _, rfl, SqT.of upd_same, rfl, _, _, rfl, _, _, rfl, rfl, ?_⟩
    obtain ⟨H1, e1⟩ : ∃ H1, H1 = upd H p1 (.tup [.int (cnt z), .int (chk z)]) := ⟨_, rfl⟩
    rw [← e1]
    have s01 : Same H H1 := by rw [e1]; exact Same.new n1
    refine ⟨_, rfl, _, rfl, (n62 (by omega)).1, (n62 (by omega)).2, fun D hD => lc_range (n := ((cnt z : Nat) : Int).toNat) (fun i H' => Same H1 H' ∧ H' D = some (.lst (((List.range i).map fun k => m / 2 ^ (4 * k) % 16).map V.int))) ⟨Same.new hD, upd_same⟩ ?_ ?_⟩
    · rintro i H' hi ⟨s1, h1⟩
      refine ⟨rfl, _, rfl, _, rfl, _, _, rfl, rfl, cmul4, _, _, rfl, rfl, ?_, _, 4, rfl, congrArg V.int m15, _, h1, sz2 (by simp; omega), ?_⟩
      · show (0 : Int) ≤ 4 * (0 + (i : Int))
        omega
      · exact put_int s1 hD (congrArg V.int (shr4 m i))
    · rintro H2 ⟨s12, h2⟩
      have h2 : H2 D = some (.lst ((bd z m).map V.int)) := h2
      have s02 := s01.trans s12
      refine ⟨_, rfl, D, rfl, ⟨_, SqL.of h2⟩, fun D2 hD2 => lc_list (K := K) (a := D) (xs := (bd z m).map V.int) (fun i H' => Same H2 H' ∧ H' D2 = some (.lst ((((bd z m).take i).map fun d => 15 - d).map V.int))) ⟨Same.new hD2, upd_same⟩ (fun i H' _ h => SqL.of (h.1 _ _ h2)) ?_ ?_⟩
      · rintro i x H' hi ⟨s1, h1⟩
        obtain ⟨d, hd, rfl⟩ := int_of hi
        have hl : i < (bd z m).length := (List.getElem?_eq_some_iff.mp hd).1
        rw [bd_len] at hl
        refine ⟨rfl, _, _, rfl, rfl, _, rfl, _, _, rfl, rfl, _, h1, sz2 (by simp; omega), Same.put s1 hD2, ?_⟩
        rw [upd_same, take_next hd, List.map_append, List.map_append]
        rfl
      · rintro H3 ⟨s23, h3⟩
        rw [List.length_map, List.take_of_length_le (Nat.le_refl _)] at h3
        have s03 := s02.trans s23
        refine ⟨D2, _, rfl, SqL.of h3, ?_⟩
        refine ⟨_, rfl, _, rfl, _, rfl, (n62 (by omega)).1, (n62 (by omega)).2, fun D3 hD3 => lc_range (n := ((chk z : Nat) : Int).toNat) (fun i H' => Same H3 H' ∧ H' D3 = some (.lst (((List.range i).map fun k => rs z m / 2 ^ (4 * k) % 16).map V.int))) ⟨Same.new hD3, upd_same⟩ ?_ ?_⟩
        · rintro i H' hi ⟨s1, h1⟩
          refine ⟨rfl, _, rfl, _, rfl, _, _, rfl, rfl, cmul4, _, _, rfl, rfl, ?_, _, 4, rfl, congrArg V.int m15, _, h1, sz2 (by simp; omega), ?_⟩
          · show (0 : Int) ≤ 4 * (0 + (i : Int))
            omega
          · exact put_int s1 hD3 (congrArg V.int (shr4 (rs z m) i))
        · rintro H4 ⟨s34, h4⟩
          have h4 : H4 D3 = some (.lst ((cd z m).map V.int)) := h4
          refine ⟨D, D3, _, _, rfl, rfl, s34 _ _ (s23 _ _ h2), h4, sz1 (by rw [List.length_map, List.length_map, bd_len, cd_len]; omega), fun p np => ?_⟩
          have hp : H p = none := (s03.trans s34).free np
          refine k _ p ((s03.trans s34).trans (Same.new np)) hp ?_
          rw [upd_same, digits, List.map_append]
abbrev s_stepped : Stmt := top 23
theorem sc_stepped : FnScope ["hasher", "index", "chain", "word", "first", "last", "found", "step"] ["hasher", "index", "chain", "word", "first", "last"] (defScope s_stepped) := ⟨rfl, rfl, rfl, by decide +kernel, rfl, by decide +kernel, by decide +kernel⟩
theorem ok_stepped (F : Fun K "stepped" "stepped" s_stepped f fd) (T : Tx K mg CH CS) (m_Hasher_digest : C8.Met P w K mg base 2 CH "digest" (spDigest K CH) []) : FnOk P w K mg base CX0 3 f fd ["hasher", "index", "chain", "word", "first", "last"] (spStepped CH) := by
  refine F.ok sc_stepped (fun vs H Q E h => ?_) (fun cdv A outer s H vs Q E hr h => ?_)
  · obtain ⟨h, z, i, c, x, a, rfl, _⟩ := h
    rfl
  · obtain ⟨h, z, i, c, x, a, rfl, ⟨dx, hP⟩, hz, hi, hc, hx, ha0, ha15, k⟩ := h
    refine ⟨_, (pss_cons (ps_set (i := 6) sc_stepped.nd rfl (Or.inl rfl) (pe_lst (pa_cons (pv 3) pa_nil)))
        (pss_cons (ps_for PassesOwn.never rfl (pi_range2 rfl T.range (pa_cons (pv 4) (pa_cons (pv 5) pa_nil))) (pg_name (i := 7) sc_stepped.nd rfl (by first | exact Or.inl rfl | exact Or.inr rfl))
          (pss_one (ps_expr (pe_bm PySem.F.plainAttrs_list PySem.F.slot_list_append PySem.F.type_list_append mt_append (pv 6) (pa_cons (C8.pe_mt m_Hasher_digest hr (by decide) (pv 0) (pa_cons (C8.pe_gc rfl T.gCHAIN) (pa_cons (pe_tup (pa_cons (pv 1) (pa_cons (pv 2) (pa_cons (pv 7) (pa_cons (pe_ix ix_list (pv 6) (pe_un un_neg pe_int) (fun _ _ => rfl)) pa_nil))))) pa_nil))) pa_nil)))))
        (pss_one (ps_ret (pv 6))))), ?_⟩
    refine ⟨_, rfl, by show 1 ≤ sizeLine; decide, fun p hp => ?_⟩
    have a62 := n62 (n := a.toNat) (by omega)
    have a15 := n62 (n := 15) (by decide)
    refine ⟨_, rfl, _, rfl, _, _, rfl, ⟨by omega, by omega, a15.1, a15.2⟩, for_range (lo := a) (n := (15 - a).toNat) (fun t σ H' => Same H H' ∧ (∃ v, σ = [some (.ref h), some (.int i), some (.int c), some (.int x), some (.int a), some (.int 15), some (.ref p), v]) ∧ H' p = some (.lst ((((List.range t).map (wk z i c a x)).map V.int) ++ [.int (wk z i c a x t)])))
      ⟨Same.new hp, ⟨none, rfl⟩, upd_same⟩ ?_ ?_⟩
    · rintro t σ H1 ht ⟨s1, ⟨v, rfl⟩, h1⟩
      have hP1 := s1 _ _ hP
      refine ⟨_, rfl, .inl ⟨rfl, _, SqL.of h1⟩, _, rfl, h, dx, _, rfl, hP1, rfl, _, rfl, _, rfl, _, rfl, _, rfl, _, rfl, p, _, _, _, rfl, rfl, SqL.of h1, atI_last _ _, by show 4 ≤ sizeLine; decide, fun p1 n1 => ?_⟩
      refine ⟨h, p1, z, 4, [i, c, a + t, wk z i c a x t], rfl, ⟨dx, Same.new n1 _ _ hP1⟩, hz, .inr (SqT.of upd_same), ⟨by show 4 ≤ 100; decide, ?_⟩, fun H2 s2 => ?_⟩
      · intro n hn
        have q := (nn_wk (w := z) (i := i) (c := c) (a := a) hx t).2
        have q2 : (a + t : Int) < 2 ^ 128 := by rw [p128]; omega
        have q3 := hi.2
        have q4 := hc.2
        simp only [List.mem_cons, List.not_mem_nil, or_false] at hn
        rcases hn with rfl | rfl | rfl | rfl <;> assumption
      · have h2 := s2 _ _ (Same.new n1 _ _ h1)
        have s02 := s1.trans ((Same.new n1).trans s2)
        refine ⟨p, _, _, rfl, rfl, h2, sz2 (by simp; omega), Same.put s02 hp, ⟨_, rfl⟩, ?_⟩
        rw [upd_same, rng_snoc]
        rfl
    · rintro σ H1 ⟨s1, ⟨v, rfl⟩, h1⟩
      refine ⟨_, rfl, k _ p s1 hp ?_⟩
      rw [h1, rng_snoc]
      have e : (15 - a).toNat + 1 = (16 - a).toNat := by omega
      rw [e]
abbrev s_key_digest : Stmt := top 24
theorem sc_key_digest : FnScope ["hasher", "index", "tops"] ["hasher", "index", "tops"] (defScope s_key_digest) := ⟨rfl, rfl, rfl, by decide +kernel, rfl, by decide +kernel, by decide +kernel⟩
theorem ok_key_digest (F : Fun K "key_digest" "key_digest" s_key_digest f fd) (T : Tx K mg CH CS) (m_Hasher_digest : C8.Met P w K mg base 2 CH "digest" (spDigest K CH) []) : FnOk P w K mg base CX0 3 f fd ["hasher", "index", "tops"] (spKeyDig CH) := by
  refine F.ok sc_key_digest (fun vs H Q E h => ?_) (fun cdv A outer s H vs Q E hr h => ?_)
  · obtain ⟨h, t, z, i, ns, rfl, _⟩ := h
    rfl
  · obtain ⟨h, t, z, i, ns, rfl, ⟨dx, hP⟩, hz, hT, hm, k⟩ := h
    refine ⟨_, (pss_one (ps_ret (C8.pe_mt m_Hasher_digest hr (by decide) (pv 0) (pa_cons (C8.pe_gc rfl T.gKEY) (pa_cons (pe_op op_cat (pe_lst (pa_cons (pv 1) pa_nil)) (pe_callTy call_list_of (by rfl) T.list (by decide +kernel) (pa_cons (pv 2) pa_nil))) pa_nil))))), ?_⟩
    refine ⟨_, rfl, h, dx, _, rfl, hP, rfl, _, rfl, by show 1 ≤ sizeLine; decide, fun p1 n1 => ?_⟩
    refine ⟨_, rfl, t, _, rfl, .inl (SqL.of (Same.new n1 _ _ hT)), fun l nl => ?_⟩
    refine ⟨p1, l, _, _, rfl, rfl, Same.new nl _ _ upd_same, upd_same, sz1 ?_, fun p2 n2 => ?_⟩
    · have := hm.1
      simp at this ⊢
      omega
    refine ⟨h, p2, z, 5, i :: ns, rfl, ⟨dx, (((Same.new n1).trans (Same.new nl)).trans (Same.new n2)) _ _ hP⟩, hz, .inl (SqL.of upd_same), hm, fun H2 s2 => k _ ((((Same.new n1).trans (Same.new nl)).trans (Same.new n2)).trans s2)⟩
end
end K11
namespace K11
open PySem L2
section
variable {P : Program} {w : World} {K : PySem.W.Frag} {mg : Str → Option Value} {base : Heap} {CH CS : Addr} {f : Addr} {fd : FuncData}
theorem m64L : (1 : Int) * 2 ^ (64 : Int).toNat - 1 = 2 ^ 64 - 1 := by decide +kernel
abbrev s_law_digest : Stmt := top 35
theorem sc_law_digest : FnScope ["_law_width", "_law_tag", "_law_numbers", "_law_limbs", "_law_number", "_law_digits_here", "_law_mask", "_law_first", "_law_second", "_law_limb"] ["_law_width", "_law_tag", "_law_numbers"] (defScope s_law_digest) := ⟨rfl, rfl, rfl, by decide +kernel, rfl, by decide +kernel, by decide +kernel⟩
theorem ok_law_digest (F : Fun K "_law_digest" "_law_digest" s_law_digest f fd) (T : Tx K mg CH CS) : FnOk P w K mg base CX0 1 f fd ["_law_width", "_law_tag", "_law_numbers"] (spLDigest K) := by
  refine F.ok sc_law_digest (fun vs H Q E h => ?_) (fun cdv A outer s H vs Q E hr h => ?_)
  · obtain ⟨a, z, t, ns, rfl, _⟩ := h
    rfl
  · obtain ⟨a, z, t, ns, rfl, hz, hS, hm, k⟩ := h
    refine ⟨_, (pss_cons (ps_set (i := 3) sc_law_digest.nd rfl (Or.inl rfl) (pe_lst (pa_cons (pv 1) (pa_cons (pe_callB call_len_seq (by rfl) T.len PySem.boot_len (pa_cons (pv 2) pa_nil)) pa_nil))))
        (pss_cons (ps_for PassesOwn.never rfl (pi_seq (pv 2)) (pg_name (i := 4) sc_law_digest.nd rfl (by first | exact Or.inl rfl | exact Or.inr rfl))
          (pss_cons (ps_set (i := 5) sc_law_digest.nd rfl (Or.inl rfl) (pe_lst pa_nil))
        (pss_cons (ps_while PassesOwn.never (pt_cmpR op_gt (pv 4) pe_int (nomark _))
          (pss_cons (ps_expr (pe_bm PySem.F.plainAttrs_list PySem.F.slot_list_append PySem.F.type_list_append mt_append (pv 5) (pa_cons (pe_op op_andM (pv 4) pe_int) pa_nil)))
        (pss_one (ps_set (i := 4) sc_law_digest.nd rfl (Or.inl rfl) (pe_op op_shr (pv 4) pe_int)))))
        (pss_one (ps_set (i := 3) sc_law_digest.nd rfl (Or.inl rfl) (pe_op op_cat (pe_op op_cat (pv 3) (pe_lst (pa_cons (pe_callB call_len_seq (by rfl) T.len PySem.boot_len (pa_cons (pv 5) pa_nil)) pa_nil))) (pv 5)))))))
        (pss_cons (ps_set (i := 6) sc_law_digest.nd rfl (Or.inl rfl) (pe_op op_sub (pe_op op_shl pe_int pe_int) pe_int))
        (pss_cons (ps_set (i := 7) sc_law_digest.nd rfl (Or.inl rfl) pe_int)
        (pss_cons (ps_set (i := 8) sc_law_digest.nd rfl (Or.inl rfl) pe_int)
        (pss_cons (ps_for PassesOwn.never rfl (pi_list (pe_op op_cat (pv 3) (pe_lst (pa_cons (pv 0) (pa_cons (pv 0) pa_nil))))) (pg_name (i := 9) sc_law_digest.nd rfl (by first | exact Or.inl rfl | exact Or.inr rfl))
          (pss_cons (ps_set (i := 7) sc_law_digest.nd rfl (Or.inl rfl) (pe_op op_andM (pe_op op_mul (pe_op op_xor (pv 7) (pv 9)) pe_int) (pv 6)))
        (pss_cons (ps_set (i := 7) sc_law_digest.nd rfl (Or.inl rfl) (pe_op op_xor (pv 7) (pe_op op_shr (pv 7) pe_int)))
        (pss_cons (ps_set (i := 8) sc_law_digest.nd rfl (Or.inl rfl) (pe_op op_andM (pe_op op_mul (pe_op op_add (pv 8) (pv 7)) pe_int) (pv 6)))
        (pss_cons (ps_set (i := 8) sc_law_digest.nd rfl (Or.inl rfl) (pe_op op_xor (pv 8) (pe_op op_shr (pv 8) pe_int)))
        (pss_one (ps_set (i := 7) sc_law_digest.nd rfl (Or.inl rfl) (pe_op op_andM (pe_op op_add (pv 7) (pv 8)) (pv 6)))))))))
        (pss_one (ps_ret (pe_op op_shr (pe_op op_add (pe_op op_shl (pv 7) pe_int) (pv 8)) (pe_op op_sub pe_int (pv 0))))))))))), ?_⟩
    have hl := limbs_len hm
    refine ⟨_, rfl, _, rfl, a, _, rfl, hS, by show 2 ≤ sizeLine; decide, fun q nq => ?_⟩
    refine ⟨a, ns.map V.int, H, rfl, Same.new nq, hS, fun J G wk hG => for_it wk (fun i σ H' => Same H H' ∧ ∃ q v4 v5, σ = [some (.int z), some (.int t), some (.ref a), some (.ref q), v4, v5, none, none, none, none] ∧ H' q = some (.lst ((t :: (ns.length : Int) :: (ns.take i).flatMap lm).map V.int)))
      ⟨Same.new nq, q, none, none, rfl, ?_⟩ (fun i σ H' _ h => hG _ h.1) ?_ ?_⟩
    · rw [upd_same, List.length_map]
      rfl
    · clear nq q
      rintro i x σ H1 H2 hi ⟨s1, q, v4, v5, rfl, hL⟩ ⟨rfl, hx⟩
      obtain ⟨n, hn, rfl⟩ := int_of hx
      have hle : (t :: (ns.length : Int) :: (ns.take i).flatMap lm).length ≤ 502 := by
        have a1 := flat_len (ns.take i) fun m hm' => hm.2 m (List.mem_of_mem_take hm')
        have a2 := hm.1
        have a4 : (ns.take i).length ≤ ns.length := by rw [List.length_take]; omega
        (rw [List.length_cons, List.length_cons])
        omega
      have hn4 := digs_len4 (hm.2 n (List.mem_of_getElem? hn))
      generalize hA : (t :: (ns.length : Int) :: (ns.take i).flatMap lm) = A at *
      refine ⟨by show 0 ≤ sizeLine; decide, fun D hD => ?_⟩
      have nDq : q ≠ D := ne_of_none hL hD
      have hD0 : H D = none := s1.free hD
      refine while_by (fun σ H' => Same H H' ∧ H' q = some (.lst (A.map V.int)) ∧ ∃ (m : Int) (ds : List Int), σ = [some (.int z), some (.int t), some (.ref a), some (.ref q), some (.int m), some (.ref D), none, none, none, none] ∧ H' D = some (.lst (ds.map V.int)) ∧ ds ++ digs m = digs n)
        (fun σ _ => num σ 4) ⟨Same.put s1 hD0, ?_, n, [], rfl, upd_same, rfl⟩ ?_ ?_
      · rw [upd_ne nDq]
        exact hL
      · rintro σ H3 ⟨s3, hq3, m, ds, rfl, hL3, hd⟩
        (refine ⟨_, rfl, _, _, rfl, rfl, _, rfl, ?_⟩)
        refine ite2 (fun hpos => ?_) (fun hneg => ?_)
        · have hpos : 0 < m := of_decide_eq_true hpos
          have hlen : ds.length ≤ 3 := by
            rw [digs_pos hpos] at hd
            have := congrArg List.length hd
            rw [List.length_append, List.length_cons] at this
            omega
          refine ⟨_, rfl, .inl ⟨rfl, _, SqL.of hL3⟩, _, rfl, m, 32, rfl, congrArg V.int p32', D, _, _, rfl, rfl, hL3, sz2 (by simp; omega), ?_⟩
          refine ⟨_, rfl, _, _, rfl, rfl, (by show (0 : Int) ≤ 32; decide), ?_⟩
          refine ⟨⟨Same.put s3 hD0, ?_, m / 4294967296, ds ++ [m % 4294967296], rfl, ?_, ?_⟩, ?_⟩
          · rw [upd_ne nDq]
            exact hq3
          · rw [upd_same, p32, List.map_append]
            rfl
          · rw [← hd, digs_pos hpos]
            simp
          · show (m / 4294967296).toNat < m.toNat
            omega
        · have hneg : ¬ 0 < m := fun z => hneg (decide_eq_true z)
          rw [digs_non hneg, List.append_nil] at hd
          subst hd
          refine ⟨_, rfl, _, rfl, D, _, rfl, .inl (SqL.of hL3), by show 1 ≤ sizeLine; decide, fun p1 n1 => ?_⟩
          refine ⟨q, p1, _, _, rfl, rfl, Same.new n1 _ _ hq3, upd_same, sz1 (by simp; omega), fun p2 n2 => ?_⟩
          refine ⟨_, rfl, p2, D, _, _, rfl, rfl, upd_same, Same.new n2 _ _ (Same.new n1 _ _ hL3), sz1 (by simp; omega), fun p3 n3 => ?_⟩
          refine ⟨s3.trans (((Same.new n1).trans (Same.new n2)).trans (Same.new n3)), p3, _, _, rfl, ?_⟩
          rw [upd_same, take_next hn, List.flatMap_append, ← List.cons_append, ← List.cons_append, hA]
          simp [lm]
      · intro σ H Q Q' hQ h
        obtain ⟨x, e, i', j', e1, e2, c, e3, q⟩ := h
        exact ⟨x, e, i', j', e1, e2, c, e3, hQ _ _ q⟩
    · clear nq q
      rintro σ H1 ⟨s1, q, v4, v5, rfl, hL⟩
      rw [List.length_map, List.take_of_length_le (Nat.le_refl _)] at hL
      have hL : H1 q = some (.lst ((t :: limbs ns).map V.int)) := hL
      refine ⟨_, _, rfl, rfl, ⟨by decide, by decide, by decide +kernel⟩, _, _, rfl, rfl, ?_⟩
      refine ⟨_, rfl, _, rfl, _, rfl, by show 2 ≤ sizeLine; decide, fun p4 n4 => ?_⟩
      refine ⟨q, p4, _, _, rfl, rfl, Same.new n4 _ _ hL, upd_same, sz1 (by simp; omega), fun p5 n5 => ?_⟩
      obtain ⟨H5, e5⟩ : ∃ H5, H5 = upd (upd H1 p4 (.lst [V.int z, V.int z])) p5 (.lst ((t :: limbs ns).map V.int ++ [V.int z, V.int z])) := ⟨_, rfl⟩
      rw [← e5]
      have h5 : H5 p5 = some (.lst ((t :: limbs ns ++ [z, z]).map V.int)) := by
        rw [e5, upd_same, List.map_append]
        rfl
      have s05 : Same H H5 := by rw [e5]; exact (s1.trans (Same.new n4)).trans (Same.new n5)
      refine ⟨p5, rfl, ⟨_, SqL.of h5⟩, for_list (K := K) (a := p5) (xs := (t :: limbs ns ++ [z, z]).map V.int) (fun i σ H' => H' = H5 ∧ ∃ v, σ = [some (.int z), some (.int t), some (.ref a), some (.ref q), v4, v5, some (.int (1 * 2 ^ (64 : Int).toNat - 1)), some (.int ((t :: limbs ns ++ [z, z]).take i |>.foldl rd start2).1), some (.int ((t :: limbs ns ++ [z, z]).take i |>.foldl rd start2).2), v])
        ⟨rfl, none, rfl⟩ (fun i σ H' _ h => by rw [h.1]; exact SqL.of h5) ?_ ?_⟩
      · rintro i x σ H' hi ⟨rfl, v, rfl⟩
        obtain ⟨l, hl', rfl⟩ := int_of hi
        rw [fold_next hl']
        generalize ((t :: limbs ns ++ [z, z]).take i).foldl rd start2 = r
        refine ⟨_, rfl, _, rfl, _, _, rfl, rfl, _, _, rfl, rfl, mONE, _, rfl, _, 64, rfl, congrArg V.int m64L, ?_⟩
        refine ⟨_, rfl, _, rfl, _, _, rfl, rfl, (by show (0 : Int) ≤ 31; decide), _, _, rfl, rfl, ?_⟩
        refine ⟨_, rfl, _, rfl, _, _, rfl, rfl, _, _, rfl, rfl, mOTHER, _, rfl, _, 64, rfl, congrArg V.int m64L, ?_⟩
        refine ⟨_, rfl, _, rfl, _, _, rfl, rfl, (by show (0 : Int) ≤ 29; decide), _, _, rfl, rfl, ?_⟩
        refine ⟨_, rfl, _, rfl, _, _, rfl, rfl, _, rfl, _, 64, rfl, congrArg V.int m64L, ?_⟩
        exact ⟨rfl, _, rfl⟩
      · rintro σ H' ⟨rfl, v, rfl⟩
        rw [List.length_map, List.take_of_length_le (Nat.le_refl _)]
        have ok := fold_ok (t :: limbs ns ++ [z, z]) start2 start2_ok
        refine ⟨_, rfl, _, _, rfl, rfl, pow64 ok.1.1 ok.1.2, _, rfl, _, _, rfl, rfl, ?_⟩
        refine ⟨_, rfl, _, _, rfl, rfl, _, _, rfl, rfl, ?_, ?_⟩
        · have := hz.hi
          show (0 : Int) ≤ 128 - z
          omega
        · exact k _ s05
abbrev s_law_digits : Stmt := top 36
theorem sc_law_digits : FnScope ["_law_width", "_law_message", "_law_digits_here", "_law_rest", "_law_more", "_law_most", "_law_k", "_law_digit"] ["_law_width", "_law_message"] (defScope s_law_digits) := ⟨rfl, rfl, rfl, by decide +kernel, rfl, by decide +kernel, by decide +kernel⟩
theorem ok_law_digits (F : Fun K "_law_digits" "_law_digits" s_law_digits f fd) (T : Tx K mg CH CS) : FnOk P w K mg base CX0 1 f fd ["_law_width", "_law_message"] spDigits := by
  refine F.ok sc_law_digits (fun vs H Q E h => ?_) (fun cdv A outer s H vs Q E hr h => ?_)
  · obtain ⟨z, m, rfl, _⟩ := h
    rfl
  · obtain ⟨z, m, rfl, hz, k⟩ := h
    refine ⟨_, (pss_cons (ps_setLc (i := 2) (own := [("_law_k", 6)]) (g := gName 6) (tt := tYes) rfl sc_law_digits.nd rfl rfl (sw_true rfl rfl rfl (by decide +kernel)) (pi_range1 rfl T.range (pa_cons (pe_op op_fdiv (pe_op op_add (pv 0) pe_int) pe_int) pa_nil)) (blkOk_by (N := ["_law_width", "_law_message", "_law_digits_here", "_law_rest", "_law_more", "_law_most", "_law_k", "_law_digit"]) (sc := defScope s_law_digits) (by decide +kernel)) (fun _ _ _ _ _ => (pg_name (i := 6) sc_law_digits.nd rfl (by first | exact Or.inl rfl | exact Or.inr rfl))) (fun _ _ _ _ _ => pts_nil) (fun _ _ _ _ _ => (pe_op op_andM (pe_op op_shr (pv 1) (pe_op op_mul pe_int (pv 6))) pe_int)))
        (pss_cons (ps_set (i := 3) sc_law_digits.nd rfl (Or.inl rfl) (pe_callB (cr_sum rfl) (by rfl) T.sum (by decide +kernel) (pa_cons (pe_lc (own := [("_law_digit", 7)]) (g := gName 7) (tt := tYes) rfl sc_law_digits.nd (pi_list (pv 2)) (blkOk_by (N := ["_law_width", "_law_message", "_law_digits_here", "_law_rest", "_law_more", "_law_most", "_law_k", "_law_digit"]) (sc := defScope s_law_digits) (by decide +kernel)) (fun _ _ _ _ _ => (pg_name (i := 7) sc_law_digits.nd rfl (by first | exact Or.inl rfl | exact Or.inr rfl))) (fun _ _ _ _ _ => pts_nil) (fun _ _ _ _ _ => (pe_op op_sub pe_int (pv 7)))) pa_nil)))
        (pss_cons (ps_set (i := 4) sc_law_digits.nd rfl (Or.inl rfl) (pe_lst (pa_cons (pe_op op_andM (pv 3) pe_int) pa_nil)))
        (pss_cons (ps_set (i := 5) sc_law_digits.nd rfl (Or.inl rfl) (pe_op op_mul pe_int (pe_callB call_len_seq (by rfl) T.len PySem.boot_len (pa_cons (pv 2) pa_nil))))
        (pss_cons (ps_while PassesOwn.never (pt_cmpR op_gt (pv 5) pe_int (nomark _))
          (pss_cons (ps_set (i := 5) sc_law_digits.nd rfl (Or.inl rfl) (pe_op op_shr (pv 5) pe_int))
        (pss_cons (ps_set (i := 3) sc_law_digits.nd rfl (Or.inl rfl) (pe_op op_shr (pv 3) pe_int))
        (pss_one (ps_expr (pe_bm PySem.F.plainAttrs_list PySem.F.slot_list_append PySem.F.type_list_append mt_append (pv 4) (pa_cons (pe_op op_andM (pv 3) pe_int) pa_nil)))))))
        (pss_one (ps_ret (pe_op op_cat (pv 2) (pv 4))))))))), ?_⟩
    obtain ⟨c1, c4, _⟩ := hz.cnt
    have ec := cnt_eq hz
    refine ⟨_, rfl, _, _, rfl, rfl, _, _, rfl, rfl, ⟨by decide, by decide⟩, (z + 3) / 4, rfl, ?_, ?_, fun D hD => lc_range (n := ((z + 3) / 4).toNat) (fun i H' => Same H H' ∧ H' D = some (.lst (((List.range i).map fun k => m / 2 ^ (4 * k) % 16).map V.int))) ⟨Same.new hD, upd_same⟩ ?_ ?_⟩
    · rw [ec]
      exact (n62 (by omega)).1
    · rw [ec]
      exact (n62 (by omega)).2
    · rintro i H' hi ⟨s1, h1⟩
      refine ⟨rfl, _, rfl, _, rfl, _, _, rfl, rfl, cmul4, _, _, rfl, rfl, ?_, _, 4, rfl, congrArg V.int m15, _, h1, sz2 (by simp; omega), ?_⟩
      · show (0 : Int) ≤ 4 * (0 + (i : Int))
        omega
      · exact put_int s1 hD (congrArg V.int (shr4 m i))
    · rintro H2 ⟨s02, h2⟩
      have h2 : H2 D = some (.lst ((bd z m).map V.int)) := h2
      refine ⟨_, rfl, D, rfl, ⟨_, SqL.of h2⟩, fun D2 hD2 => lc_list (K := K) (a := D) (xs := (bd z m).map V.int) (fun i H' => Same H2 H' ∧ H' D2 = some (.lst ((((bd z m).take i).map fun d => 15 - d).map V.int))) ⟨Same.new hD2, upd_same⟩ (fun i H' _ h => SqL.of (h.1 _ _ h2)) ?_ ?_⟩
      · rintro i x H' hi ⟨s1, h1⟩
        obtain ⟨d, hd, rfl⟩ := int_of hi
        have hl : i < (bd z m).length := (List.getElem?_eq_some_iff.mp hd).1
        rw [bd_len] at hl
        refine ⟨rfl, _, rfl, _, _, rfl, rfl, _, h1, sz2 (by simp; omega), Same.put s1 hD2, ?_⟩
        rw [upd_same, take_next hd, List.map_append, List.map_append]
        rfl
      · rintro H3 ⟨s23, h3⟩
        rw [List.length_map, List.take_of_length_le (Nat.le_refl _)] at h3
        have s03 := s02.trans s23
        have hD3 := s23 _ _ h2
        refine ⟨D2, _, rfl, SqL.of h3, ?_⟩
        refine ⟨_, rfl, _, 4, rfl, congrArg V.int m15, by show 1 ≤ sizeLine; decide, fun q nq => ?_⟩
        have hDq := Same.new (o := HO.lst [V.int (rs z m % 2 ^ 4)]) nq _ _ hD3
        have q0 := s03.free nq
        refine ⟨_, rfl, D, _, rfl, .inl (SqL.of hDq), _, _, rfl, rfl, .inl ⟨by decide +kernel, by decide +kernel⟩, ?_⟩
        rw [List.length_map, bd_len]
        refine while_by (fun σ H' => Same H H' ∧ H' D = some (.lst ((bd z m).map V.int)) ∧ ∃ c : Nat, c + 1 ≤ chk z ∧ σ = [some (.int z), some (.int m), some (.ref D), some (.int (rs z m / 2 ^ (4 * c))), some (.ref q), some (.int (15 * (cnt z : Int) / 2 ^ (4 * c))), none, none] ∧ H' q = some (.lst (((List.range (c + 1)).map fun k => rs z m / 2 ^ (4 * k) % 16).map V.int)))
          (fun σ _ => num σ 5) ⟨Same.put s03 q0, hDq, 0, (Wd.chk hz).1, ?_, ?_⟩ ?_ ?_
        · rw [Nat.mul_zero, Int.pow_zero, Int.ediv_one, Int.ediv_one]
          rfl
        · rw [upd_same]
          show some (HO.lst [V.int (rs z m % 2 ^ 4)]) = some (HO.lst [V.int (rs z m / 2 ^ (4 * 0) % 16)])
          rw [Nat.mul_zero, Int.pow_zero, Int.ediv_one]
          rfl
        · rintro σ H4 ⟨s4, hD4, c, hc, rfl, hq4⟩
          have hc2 := (Wd.chk hz).2
          have e16 : (2 : Int) ^ (4 : Nat) = 16 := by decide
          have x4 : ∀ x : Int, x / 2 ^ (4 * c) / 2 ^ (4 : Int).toNat = x / 2 ^ (4 * (c + 1)) := fun x => by
            show x / 2 ^ (4 * c) / 2 ^ 4 = _
            rw [Nat.mul_succ, Int.pow_add, Int.ediv_ediv_of_nonneg (Int.le_of_lt (PySem.W.kbt_pos _))]
          (refine ⟨_, rfl, _, _, rfl, rfl, _, rfl, ?_⟩)
          refine ite2 (fun hpos => ?_) (fun hneg => ?_)
          · have hpos : 15 < 15 * (cnt z : Int) / 2 ^ (4 * c) := of_decide_eq_true hpos
            have h0 : c = 0 ∧ 2 ≤ cnt z := by
              rcases (show c = 0 ∨ c = 1 by omega) with rfl | rfl
              · rw [Nat.mul_zero, Int.pow_zero, Int.ediv_one] at hpos
                omega
              · rw [Nat.mul_one, e16] at hpos
                omega
            obtain ⟨rfl, c2⟩ := h0
            refine ⟨_, rfl, _, _, rfl, rfl, by show (0 : Int) ≤ 4; decide, _, rfl, _, _, rfl, rfl, by show (0 : Int) ≤ 4; decide, ?_⟩
            refine ⟨_, rfl, .inl ⟨rfl, _, SqL.of hq4⟩, _, rfl, _, 4, rfl, congrArg V.int m15, q, _, _, rfl, rfl, hq4, sz2 (by simp), ?_⟩
            refine ⟨⟨Same.put s4 q0, ?_, 1, ?_, ?_, ?_⟩, ?_⟩
            · rw [upd_ne (ne_of_none hD3 nq)]
              exact hD4
            · unfold chk
              rw [if_neg (by omega)]
              exact Nat.le_refl _
            · rw [← x4, ← x4]
              rfl
            · rw [upd_same]
              have := x4 (rs z m)
              show some (HO.lst [V.int (rs z m / 2 ^ (4 * 0) % 16), V.int (rs z m / 2 ^ (4 * 0) / 2 ^ (4 : Int).toNat % 2 ^ 4)]) = _
              rw [this]
              rfl
            · show (15 * (cnt z : Int) / 2 ^ (4 * 0) / 2 ^ (4 : Int).toNat).toNat < (15 * (cnt z : Int) / 2 ^ (4 * 0)).toNat
              rw [Nat.mul_zero, Int.pow_zero, Int.ediv_one]
              show (15 * (cnt z : Int) / 2 ^ (4 : Nat)).toNat < _
              rw [e16]
              omega
          · have hneg : ¬ 15 < 15 * (cnt z : Int) / 2 ^ (4 * c) := fun y => hneg (decide_eq_true y)
            have h0 : c + 1 = chk z := by
              rcases (show c = 0 ∨ c = 1 by omega) with rfl | rfl
              · rw [Nat.mul_zero, Int.pow_zero, Int.ediv_one] at hneg
                unfold chk
                rw [if_pos (by omega)]
              · omega
            rw [h0] at hq4
            refine ⟨_, rfl, _, rfl, D, q, _, _, rfl, rfl, hD4, hq4, sz1 (by rw [List.length_map, bd_len]; simp; omega), fun p np => ?_⟩
            refine k _ p (s4.trans (Same.new np)) (s4.free np) ?_
            rw [upd_same, digits, List.map_append]
            rfl
        · intro σ H Q Q' hQ h
          obtain ⟨x, e, i', j', e1, e2, c, e3, q⟩ := h
          exact ⟨x, e, i', j', e1, e2, c, e3, hQ _ _ q⟩
abbrev s_law_step : Stmt := top 37
theorem sc_law_step : FnScope ["_law_width", "_law_index", "_law_chain", "_law_step_here", "_law_word"] ["_law_width", "_law_index", "_law_chain", "_law_step_here", "_law_word"] (defScope s_law_step) := ⟨rfl, rfl, rfl, by decide +kernel, rfl, by decide +kernel, by decide +kernel⟩
theorem ok_law_step (F : Fun K "_law_step" "_law_step" s_law_step f fd) (T : Tx K mg CH CS) (c_law_digest : C8.Cal P w K mg base 1 "_law_digest" (spLDigest K) []) : FnOk P w K mg base CX0 2 f fd ["_law_width", "_law_index", "_law_chain", "_law_step_here", "_law_word"] spLStep := by
  refine F.ok sc_law_step (fun vs H Q E h => ?_) (fun cdv A outer s H vs Q E hr h => ?_)
  · obtain ⟨z, i, c, t, x, rfl, _⟩ := h
    rfl
  · obtain ⟨z, i, c, t, x, rfl, hz, hi, hc, ht, hx, k⟩ := h
    refine ⟨_, (pss_one (ps_ret (C8.pe_c c_law_digest hr (by decide) rfl (pa_cons (pv 0) (pa_cons pe_int (pa_cons (pe_lst (pa_cons (pv 1) (pa_cons (pv 2) (pa_cons (pv 3) (pa_cons (pv 4) pa_nil))))) pa_nil)))))), ?_⟩
    refine ⟨_, rfl, _, rfl, _, rfl, _, rfl, _, rfl, by show 4 ≤ sizeLine; decide, fun p1 n1 => ?_⟩
    refine ⟨p1, z, 4, [i, c, t, x], rfl, hz, .inl (SqL.of upd_same), ⟨by show 4 ≤ 100; decide, ?_⟩, fun H2 s2 => k _ ((Same.new n1).trans s2)⟩
    intro n hn
    have q1 := hi.2
    have q2 := hc.2
    have q3 := ht.2
    have q4 := hx.2
    simp only [List.mem_cons, List.not_mem_nil, or_false] at hn
    rcases hn with rfl | rfl | rfl | rfl <;> assumption
abbrev s_law_words : Stmt := top 38
theorem sc_law_words : FnScope ["_law_width", "_law_secret", "_law_index", "_law_chain", "_law_found", "_law_step_here"] ["_law_width", "_law_secret", "_law_index", "_law_chain"] (defScope s_law_words) := ⟨rfl, rfl, rfl, by decide +kernel, rfl, by decide +kernel, by decide +kernel⟩
theorem ok_law_words (F : Fun K "_law_words" "_law_words" s_law_words f fd) (T : Tx K mg CH CS) (c_law_digest : C8.Cal P w K mg base 1 "_law_digest" (spLDigest K) []) (c_law_step : C8.Cal P w K mg base 2 "_law_step" spLStep []) :
    FnOk P w K mg base CX0 3 f fd ["_law_width", "_law_secret", "_law_index", "_law_chain"] spLWords := by
  refine F.ok sc_law_words (fun vs H Q E h => ?_) (fun cdv A outer s H vs Q E hr h => ?_)
  · obtain ⟨z, y, i, c, rfl, _⟩ := h
    rfl
  · obtain ⟨z, y, i, c, rfl, hz, hy, hi, hc, k⟩ := h
    refine ⟨_, (pss_cons (ps_set (i := 4) sc_law_words.nd rfl (Or.inl rfl) (pe_lst (pa_cons (C8.pe_c c_law_digest hr (by decide) rfl (pa_cons (pv 0) (pa_cons pe_int (pa_cons (pe_lst (pa_cons (pv 1) (pa_cons (pv 2) (pa_cons (pv 3) pa_nil)))) pa_nil)))) pa_nil)))
        (pss_cons (ps_for PassesOwn.never rfl (pi_range1 rfl T.range (pa_cons pe_int pa_nil)) (pg_name (i := 5) sc_law_words.nd rfl (by first | exact Or.inl rfl | exact Or.inr rfl))
          (pss_one (ps_expr (pe_bm PySem.F.plainAttrs_list PySem.F.slot_list_append PySem.F.type_list_append mt_append (pv 4) (pa_cons (C8.pe_c c_law_step hr (by decide) rfl (pa_cons (pv 0) (pa_cons (pv 2) (pa_cons (pv 3) (pa_cons (pv 5) (pa_cons (pe_ix ix_list (pv 4) (pv 5) (fun _ _ => rfl)) pa_nil)))))) pa_nil)))))
        (pss_one (ps_ret (pv 4))))), ?_⟩
    refine ⟨_, rfl, _, rfl, _, rfl, _, rfl, by show 3 ≤ sizeLine; decide, fun p1 n1 => ?_⟩
    refine ⟨p1, z, 7, [y, i, c], rfl, hz, .inl (SqL.of upd_same), ⟨by show 3 ≤ 100; decide, ?_⟩, fun H2 s2 => ?_⟩
    · intro n hn
      have q1 := hi.2
      have q2 := hc.2
      have q3 := hy.2
      simp only [List.mem_cons, List.not_mem_nil, or_false] at hn
      rcases hn with rfl | rfl | rfl <;> assumption
    have s02 := (Same.new n1).trans s2
    refine ⟨by show 1 ≤ sizeLine; decide, fun p hp2 => ?_⟩
    have hp := s02.free hp2
    refine ⟨15, rfl, by decide, by decide, for_range (n := 15) (fun t σ H' => Same H H' ∧ (∃ v, σ = [some (.int z), some (.int y), some (.int i), some (.int c), some (.ref p), v]) ∧ H' p = some (.lst (((List.range (t + 1)).map (wd z y i c)).map V.int)))
      ⟨Same.put s02 hp, ⟨none, rfl⟩, upd_same⟩ ?_ ?_⟩
    · rintro t σ H1 ht ⟨s1, ⟨v, rfl⟩, h1⟩
      have hat : (((List.range (t + 1)).map (wd z y i c)).map V.int)[t]? = some (.int (wd z y i c t)) := by
        simp
      have ez : (0 : Int) + (t : Int) = ((t : Nat) : Int) := by omega
      refine ⟨_, rfl, .inl ⟨rfl, _, SqL.of h1⟩, _, rfl, _, rfl, _, rfl, _, rfl, _, rfl, _, rfl, p, _, ((t : Nat) : Int), _, rfl, congrArg V.int ez, SqL.of h1, atI_nat hat, ?_⟩
      refine ⟨z, i, c, t, _, by rw [ez]; rfl, hz, hi, hc, .of (by omega) (by omega), nn_wd _ _ _ _ _, fun H2 s2 => ?_⟩
      refine ⟨p, _, _, rfl, rfl, s2 _ _ h1, sz2 (by simp; omega), Same.put (s1.trans s2) hp, ⟨_, rfl⟩, ?_⟩
      rw [upd_same, ← wd_dig, rng_snoc]
    · rintro σ H1 ⟨s1, ⟨v, rfl⟩, h1⟩
      exact ⟨_, rfl, k _ p s1 hp h1⟩
end
end K11
namespace K11
open PySem L2
theorem walk_rng {n : Nat} : Walk (Itr 0 n) n (fun _ => True) (YFn fun i => V.int (i : Nat)) :=
  walk_range.mono (fun _ _ => trivial) fun _ _ _ _ _ _ y => ⟨y.1, y.2.trans (congrArg V.int (Int.zero_add _))⟩
theorem tr3 {α β : Type} {A : Nat → α → β → Prop} {n : Nat} : ∀ (i : Nat) (a : α) (b : β), i ≤ n → A i a b → True := fun _ _ _ _ _ => trivial
theorem tr2 {α : Type} {A : Nat → α → Prop} {n : Nat} : ∀ (i : Nat) (a : α), i ≤ n → A i a → True := fun _ _ _ _ => trivial
theorem rng_at {α : Type} {g : Nat → α} {n i : Nat} (h : i < n) : ((List.range n).map g)[i]? = some (g i) := by
  simp [h]
theorem Nw.upd {H H' : Hp} {p : Addr} {o u : HO} (h : H p = some u) : Same (Nw H H') (L2.upd H' p o) := fun b x e => by
  obtain ⟨a, c⟩ := Nw.get e
  rw [upd_ne (fun z => by rw [z, h] at a; cases a)]
  exact c
section
variable {P : Program} {w : World} {K : PySem.W.Frag} {mg : Str → Option Value} {base : Heap} {CH CS : Addr} {f : Addr} {fd : FuncData}
theorem PreW.pre {H : Hp} {p : Addr} {z s : Int} {L : Nat} (h : PreW CH CS H p z s L) (hs : Nn s) : PreS CH CS H p z s L := by
  obtain ⟨dx, fs, x, vw, a, b, c, d, _⟩ := h
  exact ⟨dx, fs, x, a, b, c, d, hs⟩
theorem PreS.mono {H H' : Hp} {p : Addr} {z s L : Int} (q : Same H H') (h : PreS CH CS H p z s L) : PreS CH CS H' p z s L := by
  obtain ⟨dx, fs, x, a, b, c, d, e⟩ := h
  exact ⟨dx, fs, x, q _ _ a, b, c.mono q, d, e⟩
theorem PreW.mono {H H' : Hp} {p : Addr} {z s : Int} {L : Nat} (q : Same H H') (h : PreW CH CS H p z s L) : PreW CH CS H' p z s L := by
  obtain ⟨dx, fs, x, vw, a, b, c, d, e, g⟩ := h
  exact ⟨dx, fs, x, vw, q _ _ a, b, c.mono q, d, e, keys_mono q g⟩
abbrev s_Signer_chains : Stmt := inClass (top 25) 1
theorem sc_Signer_chains : FnScope ["self"] ["self"] (defScope s_Signer_chains) := ⟨rfl, rfl, rfl, by decide +kernel, rfl, by decide +kernel, by decide +kernel⟩
theorem ok_Signer_chains (F : Fun K "chains" "Signer.chains" s_Signer_chains f fd) (T : Tx K mg CH CS) (c_digit_counts : C8.Cal P w K mg base 1 "digit_counts" spCounts []) : FnOk P w K mg base CX0 2 f fd ["self"] (spChains CH CS) := by
  refine F.ok sc_Signer_chains (fun vs H Q E h => ?_) (fun cdv A outer s H vs Q E hr h => ?_)
  · obtain ⟨p, z, y, L, rfl, _⟩ := h
    rfl
  · obtain ⟨p, z, y, L, rfl, ⟨dx, fs, h, hP, hF, ⟨dxh, hH⟩, hz, _⟩, k⟩ := h
    refine ⟨_, (pss_one (ps_ret (pe_callB (cr_sumT rfl) (by rfl) T.sum (by decide +kernel) (pa_cons (C8.pe_c c_digit_counts hr (by decide) rfl (pa_cons (pe_fld (pe_fld (pv 0) rfl) rfl) pa_nil)) pa_nil)))), ?_⟩
    refine ⟨_, rfl, p, CS, dx, fs, _, rfl, hP, T.cS, T.nS1, hF.hasher, h, CH, dxh, _, _, rfl, hH, T.cH, T.nH, rfl, z, rfl, hz, fun p1 n1 => ?_⟩
    refine ⟨p1, [(cnt z : Int), (chk z : Int)], rfl, SqT.of upd_same, ?_⟩
    have e : [(cnt z : Int), (chk z : Int)].sum = (nch z : Int) := by
      simp [nch]
    rw [e]
    exact k _ (Same.new n1)
abbrev s_Signer_key_words : Stmt := inClass (top 25) 2
theorem sc_Signer_key_words : FnScope ["self", "index", "found", "chain", "first"] ["self", "index"] (defScope s_Signer_key_words) := ⟨rfl, rfl, rfl, by decide +kernel, rfl, by decide +kernel, by decide +kernel⟩
theorem ok_Signer_key_words (F : Fun K "key_words" "Signer.key_words" s_Signer_key_words f fd) (T : Tx K mg CH CS) (m_Signer_chains : C8.Met P w K mg base 2 CS "chains" (spChains CH CS) []) (m_Hasher_digest : C8.Met P w K mg base 2 CH "digest" (spDigest K CH) [])
    (c_stepped : C8.Cal P w K mg base 3 "stepped" (spStepped CH) []) : FnOk P w K mg base CX0 4 f fd ["self", "index"] (spKeyWords CH CS) := by
  refine F.ok sc_Signer_key_words (fun vs H Q E h => ?_) (fun cdv A outer s H vs Q E hr h => ?_)
  · obtain ⟨p, z, y, L, i, rfl, _⟩ := h
    rfl
  · obtain ⟨p, z, y, L, i, rfl, pre, hi, k⟩ := h
    obtain ⟨dx, fs, h, hP, hF, ⟨dxh, hH⟩, hz, hy⟩ := id pre
    have hn6 := hz.nch
    refine ⟨_, (pss_cons (ps_set (i := 2) sc_Signer_key_words.nd rfl (Or.inl rfl) (pe_lst pa_nil))
        (pss_cons (ps_for PassesOwn.never rfl (pi_range1 rfl T.range (pa_cons (C8.pe_mt0 m_Signer_chains hr (by decide) (pv 0)) pa_nil)) (pg_name (i := 3) sc_Signer_key_words.nd rfl (by first | exact Or.inl rfl | exact Or.inr rfl))
          (pss_cons (ps_set (i := 4) sc_Signer_key_words.nd rfl (Or.inl rfl) (C8.pe_mt m_Hasher_digest hr (by decide) (pe_fld (pv 0) rfl) (pa_cons (C8.pe_gc rfl T.gSECRET) (pa_cons (pe_tup (pa_cons (pe_fld (pv 0) rfl) (pa_cons (pv 1) (pa_cons (pv 3) pa_nil)))) pa_nil))))
        (pss_one (ps_expr (pe_bm PySem.F.plainAttrs_list PySem.F.slot_list_append PySem.F.type_list_append mt_append (pv 2) (pa_cons (C8.pe_c c_stepped hr (by decide) rfl (pa_cons (pe_fld (pv 0) rfl) (pa_cons (pv 1) (pa_cons (pv 3) (pa_cons (pv 4) (pa_cons pe_int (pa_cons (pe_op op_sub (C8.pe_gc rfl T.gBASE) pe_int) pa_nil))))))) pa_nil))))))
        (pss_one (ps_ret (pv 2))))), ?_⟩
    refine ⟨by show 0 ≤ sizeLine; decide, fun q hq => ?_⟩
    refine ⟨_, rfl, p, dx, fs, rfl, Same.new hq _ _ hP, hF.m1, p, z, y, L, rfl, pre.mono (Same.new hq), fun H1 s1 => ?_⟩
    have s01 := (Same.new hq).trans s1
    have hq1 := s1 _ _ upd_same
    refine ⟨(nch z : Int), rfl, (n62 (by omega)).1, (n62 (by omega)).2, for_it (walk_rng (n := ((nch z : Nat) : Int).toNat)) (fun t σ H' => Same H H' ∧ (∃ v3 v4, σ = [some (.ref p), some (.int i), some (.ref q), v3, v4]) ∧ ∃ vs, H' q = some (.lst vs) ∧ All2 (LsI (hide (Nw H H') q)) vs ((List.range t).map fun (c : Nat) => chainL z y i c))
      ⟨s01, ⟨none, none, rfl⟩, [], hq1, All2.nil⟩ tr3 ?_ ?_⟩
    · rintro t x σ H2 H3 ht ⟨s2, ⟨v3, v4, rfl⟩, vs, h2, all⟩ ⟨rfl, rfl⟩
      have hP2 := s2 _ _ hP
      have hH2 := s2 _ _ hH
      have ht : t < nch z := ht
      refine ⟨_, rfl, p, CS, dx, fs, _, rfl, hP2, T.cS, T.nS1, hF.hasher, h, dxh, _, rfl, hH2, rfl, _, rfl, p, CS, dx, fs, _, rfl, hP2, T.cS, T.nS2, hF.secret, _, rfl, _, rfl, by show 3 ≤ sizeLine; decide, fun p1 n1 => ?_⟩
      refine ⟨h, p1, z, 7, [y, i, t], rfl, ⟨dxh, Same.new n1 _ _ hH2⟩, hz, .inr (SqT.of upd_same), ⟨by show 3 ≤ 100; decide, ?_⟩, fun H4 s4 => ?_⟩
      · intro n hn
        have q1 := hi.2
        have q2 : (t : Int) < 2 ^ 128 := by rw [p128]; omega
        have q3 := hy.2
        simp only [List.mem_cons, List.not_mem_nil, or_false] at hn
        rcases hn with rfl | rfl | rfl
        · exact q3
        · exact q1
        · exact q2
      · have s24 := (Same.new n1).trans s4
        have s04 := s2.trans s24
        have hP4 := s04 _ _ hP
        have hH4 := s04 _ _ hH
        have h4 := s24 _ _ h2
        refine ⟨_, rfl, .inl ⟨rfl, _, SqL.of h4⟩, _, rfl, p, CS, dx, fs, _, rfl, hP4, T.cS, T.nS1, hF.hasher, _, rfl, _, rfl, _, rfl, _, _, rfl, rfl, ?_⟩
        refine ⟨h, z, i, t, dig z 7 [y, i, t], 0, rfl, ⟨dxh, hH4⟩, hz, hi, .of (by omega) (by omega), .dig _ _ _, by decide, by decide, fun H5 p5 s5 n5 h5 => ?_⟩
        have h5q := s5 _ _ h4
        have s05 := s04.trans s5
        have ne : p5 ≠ q := fun e => by rw [e, h4] at n5; cases n5
        refine ⟨q, _, _, rfl, rfl, h5q, sz2 (by rw [all.len]; simp; omega), Same.put s05 hq, ⟨_, _, rfl⟩, _, upd_same, ?_⟩
        rw [hide.upd]
        refine All2.next (all.mono fun v x => LsI.mono _ _ _ _ (hide.grow (Nw.grow (s24.trans s5)))) ⟨p5, rfl, ?_⟩
        rw [hide.at_ ne, Nw.at_ (s04.free n5)]
        exact h5
    · rintro σ H2 ⟨s2, ⟨v3, v4, rfl⟩, vs, h2, all⟩
      refine ⟨_, rfl, k _ _ s2 ⟨q, vs, rfl, ?_, all.mono fun v x => LsI.mono _ _ _ _ hide.to⟩⟩
      rw [Nw.at_ hq]
      exact h2
abbrev s_Signer_word : Stmt := inClass (top 25) 3
theorem sc_Signer_word : FnScope ["self", "index", "chain", "step"] ["self", "index", "chain", "step"] (defScope s_Signer_word) := ⟨rfl, rfl, rfl, by decide +kernel, rfl, by decide +kernel, by decide +kernel⟩
theorem ok_Signer_word (F : Fun K "word" "Signer.word" s_Signer_word f fd) (T : Tx K mg CH CS) : FnOk P w K mg base CX0 1 f fd ["self", "index", "chain", "step"] (spWord CH CS) := by
  refine F.ok sc_Signer_word (fun vs H Q E h => ?_) (fun cdv A outer s H vs Q E hr h => ?_)
  · obtain ⟨p, z, y, L, i, c, t, rfl, _⟩ := h
    rfl
  · obtain ⟨p, z, y, L, i, c, t, rfl, ⟨dx, fs, h, vw, hP, hF, hH, hz, lw, kw⟩, hi, hc, ht, k⟩ := h
    refine ⟨_, (pss_one (ps_ret (pe_ix ix_list (pe_ix ix_list (pe_ix ix_list (pe_fld (pv 0) rfl) (pv 1) (fun _ _ => rfl)) (pv 2) (fun _ _ => rfl)) (pv 3) (fun _ _ => rfl)))), ?_⟩
    obtain ⟨a, vs, rfl, ha, all⟩ := kw
    obtain ⟨v1, hv1, a1, vs1, rfl, ha1, all1⟩ := all.get (rng_at (g := fun (i : Nat) => keyL z y i) hi)
    obtain ⟨v2, hv2, a2, rfl, ha2⟩ := all1.get (rng_at (g := fun (c : Nat) => chainL z y i c) hc)
    have hv3 : ((chainL z y i c).map V.int)[t]? = some (.int (wd z y i c t)) := by
      simp [chainL, ht]
    exact ⟨_, rfl, p, CS, dx, fs, _, rfl, hP, T.cS, T.nS4, lw, _, rfl, a, vs, i, _, rfl, rfl, SqL.of ha, atI_nat hv1, _, rfl, a1, vs1, c, _, rfl, rfl, SqL.of ha1, atI_nat hv2, _, rfl, a2, _, t, _, rfl, rfl, SqL.of ha2, atI_nat hv3, k⟩
abbrev s_Signer_tops : Stmt := inClass (top 25) 4
theorem sc_Signer_tops : FnScope ["self", "index", "chain"] ["self", "index"] (defScope s_Signer_tops) := ⟨rfl, rfl, rfl, by decide +kernel, rfl, by decide +kernel, by decide +kernel⟩
theorem ok_Signer_tops (F : Fun K "tops" "Signer.tops" s_Signer_tops f fd) (T : Tx K mg CH CS) (m_Signer_chains : C8.Met P w K mg base 2 CS "chains" (spChains CH CS) []) (m_Signer_word : C8.Met P w K mg base 1 CS "word" (spWord CH CS) []) :
    FnOk P w K mg base CX0 3 f fd ["self", "index"] (spTops CH CS) := by
  refine F.ok sc_Signer_tops (fun vs H Q E h => ?_) (fun cdv A outer s H vs Q E hr h => ?_)
  · obtain ⟨p, z, y, L, i, rfl, _⟩ := h
    rfl
  · obtain ⟨p, z, y, L, i, rfl, pre, hy, hi, k⟩ := h
    obtain ⟨dx, fs, h, vw, hP, hF, hH, hz, lw, kw⟩ := id pre
    have hn6 := hz.nch
    refine ⟨_, (pss_one (ps_ret (pe_lc (own := [("chain", 2)]) (g := gName 2) (tt := tYes) rfl sc_Signer_tops.nd (pi_range1 rfl T.range (pa_cons (C8.pe_mt0 m_Signer_chains hr (by decide) (pv 0)) pa_nil)) (blkOk_by (N := ["self", "index", "chain"]) (sc := defScope s_Signer_tops) (by decide +kernel)) (fun _ _ _ _ _ => (pg_name (i := 2) sc_Signer_tops.nd rfl (by first | exact Or.inl rfl | exact Or.inr rfl))) (fun _ _ _ _ _ => pts_nil) (fun _ _ _ _ _ => (C8.pe_mt m_Signer_word hr (by decide) (pv 0) (pa_cons (pv 1) (pa_cons (pv 2) (pa_cons (pe_op op_sub (C8.pe_gc rfl T.gBASE) pe_int) pa_nil)))))))), ?_⟩
    refine ⟨_, rfl, p, dx, fs, rfl, hP, hF.m1, p, z, y, L, rfl, pre.pre hy, fun H1 s1 => ?_⟩
    refine ⟨(nch z : Int), rfl, (n62 (by omega)).1, (n62 (by omega)).2, fun D hD => lc_it (walk_rng (n := ((nch z : Nat) : Int).toNat)) (fun t H' => Same H1 H' ∧ H' D = some (.lst (((List.range t).map fun (c : Nat) => wd z y i c 15).map V.int)))
      ⟨Same.new hD, upd_same⟩ tr2 ?_ ?_⟩
    · rintro t x H2 H3 ht ⟨s2, h2⟩ ⟨rfl, rfl⟩
      have ht : t < nch z := ht
      have s02 := s1.trans s2
      refine ⟨rfl, _, rfl, p, dx, fs, rfl, s02 _ _ hP, hF.m3, _, rfl, _, rfl, _, _, rfl, rfl, p, z, y, L, i, t, 15, rfl, pre.mono s02, hi, ht, by decide, _, h2, sz2 (by simp; omega), ?_⟩
      exact put_int s2 hD rfl
    · rintro H2 ⟨s2, h2⟩
      exact k _ D (s1.trans s2) (s1.free hD) h2
end
end K11
namespace K11
open PySem L2
theorem rgc2 {m : Nat} (h1 : 1 ≤ m) (h : m ≤ 1000) : RgC 0 ((2 * m : Nat) : Int) 2 m := by
  have e62 : (2 : Int) ^ 62 = 4611686018427387904 := by decide +kernel
  have e63 : (2 : Int) ^ 63 = 9223372036854775808 := by decide +kernel
  have sz : Builtin.Range.rangeSize 0 ((2 * m : Nat) : Int) 2 = (m : Int) := by
    (unfold Builtin.Range.rangeSize)
    rw [if_pos (by decide), if_pos (by omega)]
    omega
  refine ⟨by decide, by decide, ?_, sz⟩
  unfold Builtin.Range.small
  rw [sz]
  unfold Builtin.Range.rangeFitsLong
  simp only [e63]
  simp
  omega
theorem atI_end {α : Type} {xs : List α} {n : Nat} {v : α} (hl : xs.length = n + 1) (h : xs[n]? = some v) : atI xs (-1) = some v := by
  unfold atI ixN
  rw [if_neg (by decide), if_pos (by omega)]
  show xs[(-1 + (xs.length : Int)).toNat]? = some v
  rw [show (-1 + (xs.length : Int)).toNat = n by omega]
  exact h
theorem shl1 (L : Nat) : (1 : Int) * 2 ^ ((L : Nat) : Int).toNat = ((2 ^ L : Nat) : Int) := by
  rw [Int.one_mul, Int.toNat_natCast, PySem.W.kbt_cast]
theorem cpow1 {L : Nat} (h : L ≤ 1000) : CPow 1 ((L : Nat) : Int) := ⟨by omega, by omega, by decide +kernel⟩
theorem two_le6 {L : Nat} (h : L ≤ 6) : 1 ≤ 2 ^ L ∧ 2 ^ L ≤ 64 := ⟨Nat.pow_pos (by decide), Nat.pow_le_pow_right (n := 2) (by decide) h⟩
theorem half_pow {L l : Nat} (h : l < L) : 2 ^ (L - l) = 2 * 2 ^ (L - (l + 1)) := by
  rw [show L - l = (L - (l + 1)) + 1 by omega, Nat.pow_succ, Nat.mul_comm]
/-- a pair of ints -/
def Pr : RV (Int × Int) := fun H v x => ∃ t, v = .ref t ∧ H t = some (.tup [.int x.1, .int x.2])
theorem Pr.mono : Mono Pr := fun _ _ _ _ s ⟨a, e, h⟩ => ⟨a, e, s _ _ h⟩
theorem hide.put {H H' : Hp} {D : Addr} {o : HO} (s : Same H H') : Same (hide H D) (L2.upd H' D o) := fun b u e => by
  obtain ⟨a, c⟩ := hide.get e
  rw [upd_ne a]
  exact s _ _ c
theorem hide.upd' {H : Hp} {D : Addr} {o : HO} : hide (L2.upd H D o) D = hide H D := by
  funext b
  by_cases e : b = D
  · unfold hide; rw [if_pos e, if_pos e]
  · rw [hide.at_ e, hide.at_ e, upd_ne e]
theorem keys_lst {H H' : Hp} {v : V} {x : List (List (List Int))} (s : ∀ b xs, H b = some (.lst xs) → H' b = some (.lst xs)) : Keys H v x → Keys H' v x :=
  fun ⟨a, vs, e, h, all⟩ => ⟨a, vs, e, s _ _ h, all.mono fun _ _ ⟨a1, vs1, e1, h1, all1⟩ => ⟨a1, vs1, e1, s _ _ h1, all1.mono fun _ _ ⟨a2, e2, h2⟩ => ⟨a2, e2, s _ _ h2⟩⟩⟩
section
variable {P : Program} {w : World} {K : PySem.W.Frag} {mg : Str → Option Value} {base : Heap} {CH CS : Addr} {f : Addr} {fd : FuncData}
abbrev fs3 (h : Addr) (s L : Int) : List (Str × V) := [("hasher", .ref h), ("secret", .int s), ("levels", .int L)]
abbrev fs4 (h : Addr) (s L : Int) (D : Addr) : List (Str × V) := [("hasher", .ref h), ("secret", .int s), ("levels", .int L), ("words", .ref D)]
abbrev fs5 (h : Addr) (s L : Int) (D R : Addr) : List (Str × V) := [("hasher", .ref h), ("secret", .int s), ("levels", .int L), ("words", .ref D), ("rows", .ref R)]
abbrev fs6 (h : Addr) (s L : Int) (D R : Addr) (k : Int) : List (Str × V) := [("hasher", .ref h), ("secret", .int s), ("levels", .int L), ("words", .ref D), ("rows", .ref R), ("public", .int k)]
theorem fl3 {h : Addr} {s L : Int} : Flds (fs3 h s L) h s L := ⟨rfl, rfl, rfl, rfl, rfl, rfl, rfl⟩
theorem fl4 {h D : Addr} {s L : Int} : Flds (fs4 h s L D) h s L := ⟨rfl, rfl, rfl, rfl, rfl, rfl, rfl⟩
theorem fl6 {h D R : Addr} {s L k : Int} : Flds (fs6 h s L D R k) h s L := ⟨rfl, rfl, rfl, rfl, rfl, rfl, rfl⟩
abbrev s_Signer_init : Stmt := inClass (top 25) 0
theorem sc_Signer_init : FnScope ["self", "hasher", "secret", "levels", "level", "row", "pairs", "index", "k", "left", "right"] ["self", "hasher", "secret", "levels"] (defScope s_Signer_init) := ⟨rfl, rfl, rfl, by decide +kernel, rfl, by decide +kernel, by decide +kernel⟩
theorem ok_Signer_init (F : Fun K "__init__" "Signer.__init__" s_Signer_init f fd) (T : Tx K mg CH CS) (m_Signer_key_words : C8.Met P w K mg base 4 CS "key_words" (spKeyWords CH CS) []) (m_Signer_tops : C8.Met P w K mg base 3 CS "tops" (spTops CH CS) [])
    (m_Hasher_digest : C8.Met P w K mg base 2 CH "digest" (spDigest K CH) []) (c_key_digest : C8.Cal P w K mg base 3 "key_digest" (spKeyDig CH) []) : FnOk P w K mg base CX0 5 f fd ["self", "hasher", "secret", "levels"] (spSInit CH CS) := by
  refine F.ok sc_Signer_init (fun vs H Q E h => ?_) (fun cdv A outer s H vs Q E hr h => ?_)
  · obtain ⟨H0, p, dx, h, z, y, L, rfl, _⟩ := h
    rfl
  · obtain ⟨H0, p, dx, h, z, y, L, rfl, sb, hp0, hp, ⟨dxh, hH0⟩, hz, hy, hL, k⟩ := h
    have hn6 := hz.nch
    have h64 := two_le6 hL
    refine ⟨_, (pss_cons (ps_fld (pv 0) (pv 1) rfl)
        (pss_cons (ps_fld (pv 0) (pv 2) rfl)
        (pss_cons (ps_fld (pv 0) (pv 3) rfl)
        (pss_cons (ps_fld (pv 0) (pe_lc (own := [("index", 7)]) (g := gName 7) (tt := tYes) rfl sc_Signer_init.nd (pi_range1 rfl T.range (pa_cons (pe_op op_shl pe_int (pv 3)) pa_nil)) (blkOk_by (N := ["self", "hasher", "secret", "levels", "level", "row", "pairs", "index", "k", "left", "right"]) (sc := defScope s_Signer_init) (by decide +kernel)) (fun _ _ _ _ _ => (pg_name (i := 7) sc_Signer_init.nd rfl (by first | exact Or.inl rfl | exact Or.inr rfl))) (fun _ _ _ _ _ => pts_nil) (fun _ _ _ _ _ => (C8.pe_mt m_Signer_key_words hr (by decide) (pv 0) (pa_cons (pv 7) pa_nil)))) rfl)
        (pss_cons (ps_fld (pv 0) (pe_lst (pa_cons (pe_lc (own := [("index", 7)]) (g := gName 7) (tt := tYes) rfl sc_Signer_init.nd (pi_range1 rfl T.range (pa_cons (pe_op op_shl pe_int (pv 3)) pa_nil)) (blkOk_by (N := ["self", "hasher", "secret", "levels", "level", "row", "pairs", "index", "k", "left", "right"]) (sc := defScope s_Signer_init) (by decide +kernel)) (fun _ _ _ _ _ => (pg_name (i := 7) sc_Signer_init.nd rfl (by first | exact Or.inl rfl | exact Or.inr rfl))) (fun _ _ _ _ _ => pts_nil) (fun _ _ _ _ _ => (C8.pe_c c_key_digest hr (by decide) rfl (pa_cons (pv 1) (pa_cons (pv 7) (pa_cons (C8.pe_mt m_Signer_tops hr (by decide) (pv 0) (pa_cons (pv 7) pa_nil)) pa_nil)))))) pa_nil)) rfl)
        (pss_cons (ps_for PassesOwn.never rfl (pi_range1 rfl T.range (pa_cons (pv 3) pa_nil)) (pg_name (i := 4) sc_Signer_init.nd rfl (by first | exact Or.inl rfl | exact Or.inr rfl))
          (pss_cons (ps_set (i := 5) sc_Signer_init.nd rfl (Or.inr rfl) (pe_ix ix_list (pe_fld (pv 0) rfl) (pe_un un_neg pe_int) (fun _ _ => rfl)))
        (pss_cons (ps_setLc (i := 6) (own := [("k", 8)]) (g := gName 8) (tt := tYes) rfl sc_Signer_init.nd rfl rfl (sw_true rfl rfl rfl (by decide +kernel)) (pi_range3 rfl T.range (pa_cons pe_int (pa_cons (pe_callB call_len_seq (by rfl) T.len PySem.boot_len (pa_cons (pv 5) pa_nil)) (pa_cons pe_int pa_nil)))) (blkOk_by (N := ["self", "hasher", "secret", "levels", "level", "row", "pairs", "index", "k", "left", "right"]) (sc := defScope s_Signer_init) (by decide +kernel)) (fun _ _ _ _ _ => (pg_name (i := 8) sc_Signer_init.nd rfl (by first | exact Or.inl rfl | exact Or.inr rfl))) (fun _ _ _ _ _ => pts_nil) (fun _ _ _ _ _ => (pe_tup (pa_cons (pe_ix (r := rIxL K) ix_list (pv 5) (pv 8) (fun _ _ => rfl)) (pa_cons (pe_ix (r := rIxL K) ix_list (pv 5) (pe_op op_add (pv 8) pe_int) (fun _ _ => rfl)) pa_nil)))))
        (pss_one (ps_expr (pe_bm PySem.F.plainAttrs_list PySem.F.slot_list_append PySem.F.type_list_append mt_append (pe_fld (pv 0) rfl) (pa_cons (pe_lc (own := [("left", 9), ("right", 10)]) (g := (gTup K 2 (gCons (gName 9) (gCons (gName 10) gNil)))) (tt := tYes) rfl sc_Signer_init.nd (pi_list (pv 6)) (blkOk_by (N := ["self", "hasher", "secret", "levels", "level", "row", "pairs", "index", "k", "left", "right"]) (sc := defScope s_Signer_init) (by decide +kernel)) (fun _ _ _ _ _ => (pg_tup rfl (pgs_cons (pg_name (i := 9) sc_Signer_init.nd rfl (by first | exact Or.inl rfl | exact Or.inr rfl)) (pgs_cons (pg_name (i := 10) sc_Signer_init.nd rfl (by first | exact Or.inl rfl | exact Or.inr rfl)) pgs_nil)))) (fun _ _ _ _ _ => pts_nil) (fun _ _ _ _ _ => (C8.pe_mt m_Hasher_digest hr (by decide) (pv 1) (pa_cons (C8.pe_gc rfl T.gTREE) (pa_cons (pe_tup (pa_cons (pv 4) (pa_cons (pv 9) (pa_cons (pv 10) pa_nil)))) pa_nil))))) pa_nil)))))))
        (pss_one (ps_fld (pv 0) (C8.pe_mt m_Hasher_digest hr (by decide) (pv 1) (pa_cons (C8.pe_gc rfl T.gTREE) (pa_cons (pe_tup (pa_cons (pv 3) (pa_cons (pe_ix ix_list (pe_ix ix_list (pe_fld (pv 0) rfl) (pe_un un_neg pe_int) (fun _ _ => rfl)) pe_int (fun _ _ => rfl)) pa_nil))) pa_nil))) rfl)))))))), ?_⟩
    refine ⟨_, rfl, _, rfl, p, CS, dx, [], rfl, hp, T.cS, T.nS1, by decide, ?_⟩
    refine ⟨_, rfl, _, rfl, p, CS, dx, [("hasher", .ref h)], rfl, upd_same, T.cS, T.nS2, by show 1 < 1000; decide, ?_⟩
    refine ⟨_, rfl, _, rfl, p, CS, dx, [("hasher", .ref h), ("secret", .int y)], rfl, upd_same, T.cS, T.nS3, by show 2 < 1000; decide, ?_⟩
    obtain ⟨H3, e3⟩ : ∃ H3, H3 = upd (upd (upd H p (.ins CS dx [("hasher", .ref h)])) p (.ins CS dx [("hasher", .ref h), ("secret", .int y)])) p (.ins CS dx (fs3 h y L)) := ⟨_, rfl⟩
    have s3 : Same H0 H3 := by
      rw [e3]
      exact Same.put (Same.put (Same.put sb hp0) hp0) hp0
    have hp3 : H3 p = some (.ins CS dx (fs3 h y L)) := by rw [e3]; exact upd_same
    refine Eq.mp (congrArg _ e3) ?_
    clear e3
    -- the words
    refine ⟨_, rfl, _, _, rfl, rfl, cpow1 (by omega), ((2 ^ L : Nat) : Int), congrArg (fun i => [V.int i]) (shl1 L), (n62 (by omega)).1, (n62 (by omega)).2, fun D hD => ?_⟩
    refine lc_it (walk_rng (n := ((2 ^ L : Nat) : Int).toNat)) (fun t H' => Same H3 H' ∧ ∃ vs, H' D = some (.lst vs) ∧ All2 (LsR LsI (hide (Nw H3 H') D)) vs ((List.range t).map fun (i : Nat) => keyL z y i))
      ⟨Same.new hD, [], upd_same, All2.nil⟩ tr2 ?_ ?_
    · rintro t x H4 H5 ht ⟨s4, vs, h4, all⟩ ⟨rfl, rfl⟩
      have ht : t < 2 ^ L := ht
      refine ⟨rfl, _, rfl, p, dx, fs3 h y L, rfl, s4 _ _ hp3, fl3.m2, _, rfl, p, z, y, L, t, rfl, ⟨dx, _, h, s4 _ _ hp3, fl3, ⟨dxh, s4 _ _ (s3 _ _ hH0)⟩, hz, hy⟩, .of (by omega) (by omega), fun H5 v s5 r5 => ?_⟩
      refine ⟨vs, s5 _ _ h4, sz2 (by rw [all.len]; simp; omega), Same.put (s4.trans s5) hD, _, upd_same, ?_⟩
      rw [hide.upd]
      exact All2.next (all.mono fun v x => LsR.mono LsI.mono _ _ _ _ (hide.grow (Nw.grow s5))) (LsR.mono LsI.mono _ _ _ _ (Nw.hid s4 h4) r5)
    rintro H4 ⟨s4, vs, h4, all⟩
    have kD : Keys (Nw H3 H4) (.ref D) (keysL z y L) := ⟨D, vs, rfl, by rw [Nw.at_ hD]; exact h4, all.mono fun v x => LsR.mono LsI.mono _ _ _ _ hide.to⟩
    have hp4 := s4 _ _ hp3
    refine ⟨_, rfl, p, CS, dx, _, rfl, hp4, T.cS, T.nS4, by show 3 < 1000; decide, ?_⟩
    obtain ⟨H5, e5⟩ : ∃ H5, H5 = upd H4 p (.ins CS dx (fs4 h y L D)) := ⟨_, rfl⟩
    have s5 : Same H0 H5 := by
      rw [e5]
      exact Same.put (s3.trans s4) hp0
    have hp5 : H5 p = some (.ins CS dx (fs4 h y L D)) := by rw [e5]; exact upd_same
    have kD5 : Keys H5 (.ref D) (keysL z y L) := by
      rw [e5]
      exact keys_mono (Nw.upd hp3) kD
    refine Eq.mp (congrArg _ e5) ?_
    have hkeep : ∀ b o, Nw H3 H4 b = some o → H5 b = some o := by
      rw [e5]
      exact Nw.upd hp3
    have hnp : ∀ b o, Nw H3 H4 b = some o → b ≠ p := fun b o e q => by
      obtain ⟨a, _⟩ := Nw.get e
      rw [q, hp3] at a
      cases a
    clear e5 all h4 hp4 s4 hD vs
    have pre5 : PreW CH CS H5 p z y L := ⟨dx, _, h, _, hp5, fl4, ⟨dxh, s5 _ _ hH0⟩, hz, rfl, kD5⟩
    -- the first row
    refine ⟨_, rfl, _, _, rfl, rfl, cpow1 (by omega), ((2 ^ L : Nat) : Int), congrArg (fun i => [V.int i]) (shl1 L), (n62 (by omega)).1, (n62 (by omega)).2, fun D2 hD2 => ?_⟩
    refine lc_it (walk_rng (n := ((2 ^ L : Nat) : Int).toNat)) (fun t H' => Same H5 H' ∧ H' D2 = some (.lst (((List.range t).map (row z y 0)).map V.int))) ⟨Same.new hD2, upd_same⟩ tr2 ?_ ?_
    · rintro t x H6 H7 ht ⟨s6, h6⟩ ⟨rfl, rfl⟩
      have ht : t < 2 ^ L := ht
      refine ⟨rfl, _, rfl, _, rfl, _, rfl, p, dx, _, rfl, s6 _ _ hp5, fl4.m4, _, rfl, p, z, y, L, t, rfl, pre5.mono s6, hy, ht, fun H7 q s7 n7 h7 => ?_⟩
      have s07 := s5.trans (s6.trans s7)
      refine ⟨h, q, z, t, _, rfl, ⟨dxh, s07 _ _ hH0⟩, hz, h7, ⟨?_, ?_⟩, fun H8 s8 => ?_⟩
      · simp [topsL]
        omega
      · intro n hn
        rcases List.mem_cons.mp hn with rfl | hn
        · rw [p128]
          omega
        · obtain ⟨c, _, rfl⟩ := List.mem_map.mp hn
          exact (nn_wd _ _ _ _ _).2
      · refine ⟨_, s8 _ _ (s7 _ _ h6), sz2 (by simp; omega), ?_⟩
        exact put_int (s6.trans (s7.trans s8)) hD2 rfl
    rintro H6 ⟨s6, h6⟩
    refine ⟨by show 1 ≤ sizeLine; decide, fun R hR => ?_⟩
    refine ⟨_, rfl, p, CS, dx, _, rfl, Same.new hR _ _ (s6 _ _ hp5), T.cS, T.nS5, by show 4 < 1000; decide, ?_⟩
    obtain ⟨H7, e7⟩ : ∃ H7, H7 = upd (upd H6 R (.lst [.ref D2])) p (.ins CS dx (fs5 h y L D R)) := ⟨_, rfl⟩
    have nRp : R ≠ p := fun e => by rw [e, s6 _ _ hp5] at hR; cases hR
    have s7 : Same H0 H7 := by
      rw [e7]
      exact Same.put ((s5.trans s6).trans (Same.new hR)) hp0
    have hp7 : H7 p = some (.ins CS dx (fs5 h y L D R)) := by rw [e7]; exact upd_same
    have hR7 : H7 R = some (.lst [.ref D2]) := by rw [e7, upd_ne nRp]; exact upd_same
    have nD2R : D2 ≠ R := fun e => by rw [← e, h6] at hR; cases hR
    have nD2p : D2 ≠ p := fun e => by rw [e, hp5] at hD2; cases hD2
    have hD27 : H7 D2 = some (.lst ((rowL z y L 0).map V.int)) := by
      rw [e7, upd_ne nD2p, upd_ne nD2R]
      exact h6
    have kD7 : Keys (hide (Nw H0 H7) R) (.ref D) (keysL z y L) := by
      refine keys_mono (fun b o e => ?_) kD
      have h1 := hnp b o e
      have h2 := s6 _ _ (hkeep b o e)
      have h3 : b ≠ R := fun q => by rw [q, hR] at h2; cases h2
      rw [hide.at_ h3, Nw.at_ (s3.free (Nw.get e).1), e7, upd_ne h1, upd_ne h3]
      exact h2
    have hR0 : H0 R = none := (s5.trans s6).free hR
    have hD20 : H0 D2 = none := s5.free hD2
    refine Eq.mp (congrArg _ e7) ?_
    clear e7 nD2p h6 s6 hR hD2 kD5 pre5 kD hkeep hnp
    refine ⟨_, rfl, L, rfl, (n62 (by omega)).1, (n62 (by omega)).2, for_it (walk_rng (n := ((L : Nat) : Int).toNat)) (fun l σ H' => Same H0 H' ∧ (∃ v4 v5 v6 v7 v8 v9 v10, σ = [some (.ref p), some (.ref h), some (.int y), some (.int L), v4, v5, v6, v7, v8, v9, v10]) ∧ H' p = some (.ins CS dx (fs5 h y L D R)) ∧
        Keys (hide (Nw H0 H') R) (.ref D) (keysL z y L) ∧ ∃ vs, H' R = some (.lst vs) ∧ All2 (LsI (hide (Nw H0 H') R)) vs ((List.range (l + 1)).map (rowL z y L)))
      ⟨s7, ⟨none, none, none, none, none, none, none, rfl⟩, hp7, kD7, [.ref D2], hR7, ?_⟩ tr3 ?_ ?_⟩
    · exact All2.cons (vs := []) (xs := []) ⟨D2, rfl, by rw [hide.at_ nD2R, Nw.at_ hD20]; exact hD27⟩ All2.nil
    · rintro l x σ H8 H9 hl ⟨s8, ⟨v4, v5, v6, v7, v8, v9, v10, rfl⟩, hp8, kD8, vs, hR8, all⟩ ⟨rfl, rfl⟩
      have hl : l < L := hl
      have hH8 := s8 _ _ hH0
      have hlen : vs.length = l + 1 := by rw [all.len]; simp
      obtain ⟨vl, hvl, rl, rfl, hrl⟩ := all.get (rng_at (g := rowL z y L) (Nat.lt_succ_self l))
      obtain ⟨nrl, hrl⟩ := hide.get hrl
      have hrl := Nw.to _ _ hrl
      have hm1 := two_le6 (L := L - (l + 1)) (by omega)
      have e2m := half_pow hl
      have hrow : (rowL z y L l).length = 2 * 2 ^ (L - (l + 1)) := by
        rw [← e2m]
        simp [rowL]
      generalize hm : 2 ^ (L - (l + 1)) = m at *
      refine ⟨_, rfl, p, CS, dx, _, _, rfl, hp8, T.cS, T.nS5, rfl, _, rfl, R, vs, _, _, rfl, rfl, SqL.of hR8, atI_end hlen hvl, ?_⟩
      refine ⟨_, rfl, rl, _, rfl, .inl (SqL.of hrl), 0, ((2 * m : Nat) : Int), 2, m, ?_, rgc2 hm1.1 (by omega), fun D3 hD3 => ?_⟩
      · rw [List.length_map, hrow]
      refine lc_it (walk_rangeC (lo := 0) (c := 2) (n := m)) (fun i H' => Same H9 H' ∧ ∃ ws, H' D3 = some (.lst ws) ∧ All2 (Pr (hide H' D3)) ws ((List.range i).map fun i => (row z y l (2 * i), row z y l (2 * i + 1))))
        ⟨Same.new hD3, [], upd_same, All2.nil⟩ tr2 ?_ ?_
      · rintro i x H10 H11 hi ⟨s10, ws, h10, al⟩ ⟨rfl, rfl⟩
        have g1 : ((rowL z y L l).map V.int)[2 * i]? = some (.int (row z y l (2 * i))) := by
          rw [rowL, e2m, List.getElem?_map, rng_at (by omega)]
          rfl
        have g2 : ((rowL z y L l).map V.int)[2 * i + 1]? = some (.int (row z y l (2 * i + 1))) := by
          rw [rowL, e2m, List.getElem?_map, rng_at (by omega)]
          rfl
        have k1 : (0 : Int) + (i : Int) * 2 = ((2 * i : Nat) : Int) := by omega
        have k2 : (0 : Int) + (i : Int) * 2 + 1 = ((2 * i + 1 : Nat) : Int) := by omega
        have hrl' := s10 _ _ hrl
        refine ⟨rfl, _, rfl, _, rfl, rl, _, ((2 * i : Nat) : Int), _, rfl, congrArg V.int k1, SqL.of hrl', atI_nat g1, _, rfl, _, rfl, _, _, rfl, rfl, rl, _, ((2 * i + 1 : Nat) : Int), _, rfl, congrArg V.int k2, SqL.of hrl', atI_nat g2, by show 2 ≤ sizeLine; decide, fun t nt => ?_⟩
        have ne : t ≠ D3 := fun e => by rw [e, h10] at nt; cases nt
        refine ⟨ws, Same.new nt _ _ h10, sz2 (by rw [al.len]; simp; omega), Same.put (s10.trans (Same.new nt)) hD3, _, upd_same, ?_⟩
        rw [hide.upd']
        refine All2.next (al.mono fun v x => Pr.mono _ _ _ _ (hide.grow (Same.new nt))) ⟨t, rfl, ?_⟩
        rw [hide.at_ ne]
        exact upd_same
      rintro H10 ⟨s10, ws, h10, al⟩
      have hp10 := s10 _ _ hp8
      have hR10 := s10 _ _ hR8
      refine ⟨_, rfl, p, CS, dx, _, _, rfl, hp10, T.cS, T.nS5, rfl, .inl ⟨rfl, _, SqL.of hR10⟩, ?_⟩
      refine ⟨_, rfl, D3, rfl, ⟨_, SqL.of h10⟩, fun D4 hD4 => ?_⟩
      refine lc_it (walk_list (K := K) (a := D3) (xs := ws)) (fun i H' => Same H10 H' ∧ H' D4 = some (.lst (((List.range i).map (row z y (l + 1))).map V.int))) ⟨Same.new hD4, upd_same⟩ (fun i H' _ q => SqL.of (q.1 _ _ h10)) ?_ ?_
      · rintro i x H11 H12 hi ⟨s11, h11⟩ ⟨rfl, hx⟩
        obtain ⟨ab, hab, t, rfl, ht⟩ := al.at_ hx
        have him : i < m := by
          rw [al.len] at hi
          simpa using hi
        rw [rng_at him] at hab
        cases hab
        obtain ⟨nt, ht⟩ := hide.get ht
        have ht' := s11 _ _ ht
        have hH11 := s11 _ _ (s10 _ _ hH8)
        refine ⟨t, _, rfl, SqT.of ht', rfl, _, _, rfl, _, _, rfl, rfl, rfl, _, rfl, h, dxh, _, rfl, hH11, rfl, _, rfl, _, rfl, _, rfl, by show 3 ≤ sizeLine; decide, fun p1 n1 => ?_⟩
        refine ⟨h, p1, z, 6, [(l : Int), row z y l (2 * i), row z y l (2 * i + 1)], rfl, ⟨dxh, Same.new n1 _ _ hH11⟩, hz, .inr (SqT.of upd_same), ⟨by show 3 ≤ 100; decide, ?_⟩, fun H12 s12 => ?_⟩
        · intro n hn
          have q1 := (nn_row z y l (2 * i)).2
          have q2 := (nn_row z y l (2 * i + 1)).2
          have q3 : (l : Int) < 2 ^ 128 := by rw [p128]; omega
          simp only [List.mem_cons, List.not_mem_nil, or_false] at hn
          rcases hn with rfl | rfl | rfl
          · exact q3
          · exact q1
          · exact q2
        · refine ⟨_, s12 _ _ (Same.new n1 _ _ h11), sz2 (by simp; omega), ?_⟩
          exact put_int (s11.trans ((Same.new n1).trans s12)) hD4 rfl
      rintro H11 ⟨s11, h11⟩
      have h11 : H11 D4 = some (.lst ((rowL z y L (l + 1)).map V.int)) := by
        rw [h11, al.len]
        simp [rowL, hm]
      have hR11 := s11 _ _ hR10
      have s911 := s10.trans s11
      have nD4R : D4 ≠ R := fun e => by rw [e, hR10] at hD4; cases hD4
      refine ⟨R, vs, _, rfl, rfl, hR11, sz2 (by omega), Same.put (s8.trans s911) hR0, ⟨_, _, _, _, _, _, _, rfl⟩, ?_, ?_, _, upd_same, ?_⟩
      · rw [upd_ne (fun e => nRp e.symm)]
        exact s911 _ _ hp8
      · rw [hide.upd]
        exact keys_mono (hide.grow (Nw.grow s911)) kD8
      · rw [hide.upd]
        refine All2.next (all.mono fun v x => LsI.mono _ _ _ _ (hide.grow (Nw.grow s911))) ⟨D4, rfl, ?_⟩
        rw [hide.at_ nD4R, Nw.at_ ((s8.trans s10).free hD4)]
        exact h11
    · rintro σ H8 ⟨s8, ⟨v4, v5, v6, v7, v8, v9, v10, rfl⟩, hp8, kD8, vs, hR8, all⟩
      have hH8 := s8 _ _ hH0
      have hlen : vs.length = L + 1 := by rw [all.len]; simp
      obtain ⟨vl, hvl, rl, rfl, hrl⟩ := all.get (rng_at (g := rowL z y L) (Nat.lt_succ_self L))
      obtain ⟨nrl, hrl⟩ := hide.get hrl
      have hrl := Nw.to _ _ hrl
      have g0 : ((rowL z y L L).map V.int)[0]? = some (.int (row z y L 0)) := by
        rw [rowL, Nat.sub_self]
        rfl
      refine ⟨_, rfl, h, dxh, _, rfl, hH8, rfl, _, rfl, _, rfl, p, CS, dx, _, _, rfl, hp8, T.cS, T.nS5, rfl, _, rfl, R, vs, _, _, rfl, rfl, SqL.of hR8, atI_end hlen hvl, rl, _, ((0 : Nat) : Int), _, rfl, rfl, SqL.of hrl, atI_nat g0, by show 2 ≤ sizeLine; decide, fun p1 n1 => ?_⟩
      refine ⟨h, p1, z, 6, [(L : Int), row z y L 0], rfl, ⟨dxh, Same.new n1 _ _ hH8⟩, hz, .inr (SqT.of upd_same), ⟨by show 2 ≤ 100; decide, ?_⟩, fun H9 s9 => ?_⟩
      · intro n hn
        have q1 := (nn_row z y L 0).2
        have q3 : (L : Int) < 2 ^ 128 := by rw [p128]; omega
        simp only [List.mem_cons, List.not_mem_nil, or_false] at hn
        rcases hn with rfl | rfl
        · exact q3
        · exact q1
      · have s89 := (Same.new n1).trans s9
        have hp9 := s89 _ _ hp8
        refine ⟨_, rfl, p, CS, dx, _, rfl, hp9, T.cS, T.nS6, by show 5 < 1000; decide, ?_⟩
        have sl : ∀ b xs, H8 b = some (.lst xs) → L2.upd H9 p (.ins CS dx (fs6 h y L D R (pub z y L))) b = some (.lst xs) := fun b xs e => by
          rw [upd_ne (fun q => by rw [q, hp8] at e; cases e)]
          exact s89 _ _ e
        refine k _ (Same.put (s8.trans s89) hp0) ⟨dx, fs6 h y L D R (pub z y L), .ref D, .ref R, upd_same, fl6, rfl, keys_lst (fun b xs e => ?_) kD8, rfl, ⟨R, vs, rfl, ?_, all.mono fun v x ⟨a, e, g⟩ => ⟨a, e, ?_⟩⟩, rfl⟩
        · obtain ⟨a, c⟩ := Nw.get (hide.get e).2
          rw [Nw.at_ a]
          exact sl _ _ c
        · rw [Nw.at_ hR0]
          exact sl _ _ hR8
        · obtain ⟨q, c⟩ := Nw.get (hide.get g).2
          rw [Nw.at_ q]
          exact sl _ _ c
end
end K11
namespace K11
open PySem L2
theorem cut_tail {xs : List V} {a : Nat} (h : a ≤ xs.length) : cutV xs (some (a : Int)) none = xs.drop a := by
  unfold cutV
  rw [HT.sIx_nat, HT.sIx_none, Nat.min_eq_left h, List.take_of_length_le]
  rw [List.length_drop]
  exact Nat.le_refl _
theorem cut_at {xs : List V} {a b k : Nat} (hb : b ≤ xs.length) (hk : k < b - a) : (cutV xs (some (a : Int)) (some (b : Int)))[k]? = xs[a + k]? := by
  unfold cutV
  rw [HT.sIx_nat, HT.sIx_nat, Nat.min_eq_left hb, Nat.min_eq_left (by omega), List.getElem?_take, if_pos hk, List.getElem?_drop]
theorem cut_ne {xs : List V} {a : Nat} {hi : Option Int} (h : 0 < a) (h' : 0 < xs.length) : ¬ (HT.sIx xs.length 0 (some (a : Int)) = 0 ∧ HT.sIx xs.length xs.length hi = xs.length) := fun q => by
  have := q.1
  rw [HT.sIx_nat] at this
  omega
section
variable {P : Program} {w : World} {K : PySem.W.Frag} {mg : Str → Option Value} {base : Heap} {CH CS : Addr} {f : Addr} {fd : FuncData}
theorem shape_len {z : Int} {sg : List Int} (h : shapeOk z sg = true) : sg.length = 1 + nch z + Ls z sg ∧ Ls z sg ≤ 6 ∧ 0 ≤ sx sg 0 ∧ sx sg 0 < 2 ^ Ls z sg ∧ ∀ x ∈ sg.drop 1, 0 ≤ x ∧ x < 2 ^ z.toNat := by
  unfold shapeOk at h
  simp only [Bool.and_eq_true, decide_eq_true_eq, List.all_eq_true] at h
  obtain ⟨⟨a, b⟩, ⟨c, d⟩, e⟩ := h
  rw [Ls_lv a] at d
  have q := Ls_lv a
  unfold lv at a b q
  unfold Ls at *
  exact ⟨by omega, by omega, c, d, e⟩
abbrev s_levels_of : Stmt := top 26
theorem sc_levels_of : FnScope ["hasher", "signature", "levels", "word"] ["hasher", "signature"] (defScope s_levels_of) := ⟨rfl, rfl, rfl, by decide +kernel, rfl, by decide +kernel, by decide +kernel⟩
theorem ok_levels_of (F : Fun K "levels_of" "levels_of" s_levels_of f fd) (T : Tx K mg CH CS) (c_digit_counts : C8.Cal P w K mg base 1 "digit_counts" spCounts []) (m_Hasher_is_digest : C8.Met P w K mg base 1 CH "is_digest" (spIsDig CH) []) :
    FnOk P w K mg base CX0 2 f fd ["hasher", "signature"] (spLevels CH) := by
  refine F.ok sc_levels_of (fun vs H Q E h => ?_) (fun cdv A outer s H vs Q E hr h => ?_)
  · obtain ⟨h, g, z, sg, rfl, _⟩ := h
    rfl
  · obtain ⟨h, g, z, sg, rfl, ⟨dx, hH⟩, hz, hG, hl2, hl100, k⟩ := h
    have hG : H g = some (.tup (sg.map V.int)) := hG
    refine ⟨_, (pss_cons (ps_set (i := 2) sc_levels_of.nd rfl (Or.inl rfl) (pe_op op_sub (pe_op op_sub (pe_callB call_len_seq (by rfl) T.len PySem.boot_len (pa_cons (pv 1) pa_nil)) pe_int) (pe_callB (cr_sumT rfl) (by rfl) T.sum (by decide +kernel) (pa_cons (C8.pe_c c_digit_counts hr (by decide) rfl (pa_cons (pe_fld (pv 0) rfl) pa_nil)) pa_nil))))
        (pss_cons (ps_if (PW.pt (pw_or (pt_not (pt_chain op_le op_le pe_int (pv 2) (C8.pe_gc rfl T.gMOST_LEVELS))) (pw_or1 (pt_not (pt_chain op_le op_lt pe_int (pe_ix ix_tup (pv 1) pe_int (fun _ _ => rfl)) (pe_op op_shl pe_int (pv 2))))))) (pss_one (ps_ret pe_non)) pss_nil)
        (pss_cons (ps_if (pt_not (pt_val (pe_callB (cr_all rfl) (by rfl) T.all (by decide +kernel) (pa_cons (pe_lc (own := [("word", 3)]) (g := gName 3) (tt := tYes) rfl sc_levels_of.nd (pi_tup (pe_slice sl_tup (pv 1) (po_some pe_int) po_none)) (blkOk_by (N := ["hasher", "signature", "levels", "word"]) (sc := defScope s_levels_of) (by decide +kernel)) (fun _ _ _ _ _ => (pg_name (i := 3) sc_levels_of.nd rfl (by first | exact Or.inl rfl | exact Or.inr rfl))) (fun _ _ _ _ _ => pts_nil) (fun _ _ _ _ _ => (C8.pe_mt m_Hasher_is_digest hr (by decide) (pv 0) (pa_cons (pv 3) pa_nil)))) pa_nil)))) (pss_one (ps_ret pe_non)) pss_nil)
        (pss_one (ps_ret (pv 2)))))), ?_⟩
    refine ⟨_, rfl, g, _, rfl, .inr (SqT.of hG), _, _, rfl, rfl, _, rfl, h, CH, dx, _, _, rfl, hH, T.cH, T.nH, rfl, z, rfl, hz, fun p1 n1 => ?_⟩
    have e : (((sg.map V.int).length : Nat) : Int) - 1 - [(cnt z : Int), (chk z : Int)].sum = lv z sg := by
      simp [lv, nch]
    refine ⟨p1, [(cnt z : Int), (chk z : Int)], rfl, SqT.of upd_same, _, _, rfl, congrArg V.int rfl, ?_⟩
    obtain ⟨H1, e1⟩ : ∃ H1, H1 = upd H p1 (.tup [.int (cnt z), .int (chk z)]) := ⟨_, rfl⟩
    have s1 : Same H H1 := by rw [e1]; exact Same.new n1
    rw [← e1]
    clear e1
    have hG1 := s1 _ _ hG
    have hH1 := s1 _ _ hH
    have g0 : (sg.map V.int)[0]? = some (.int (sx sg 0)) := by
      rw [List.getElem?_map, sx_at (by omega)]
      rfl
    dsimp only
    rw [e]
    have no : ∀ {H'}, Same H H' → shapeOk z sg = false → Q .non H' := fun {H'} s' q => by
      have := k H' s'
      rw [q] at this
      exact this
    have n26 := hz.nch
    have lv99 : lv z sg ≤ 99 := by unfold lv; omega
    refine ⟨_, rfl, _, _, rfl, rfl, _, rfl, ite2 (fun a1 => ?_) (fun a1 => ?_)⟩
    · have a1 : 0 ≤ lv z sg := of_decide_eq_true a1
      refine ⟨_, _, rfl, rfl, _, rfl, ite2 (fun a2 => ?_) (fun a2 => ?_)⟩
      · refine iteT (no s1 ?_)
        have a2 : ¬ lv z sg ≤ 6 := fun q => by
          have a2 : (!decide (lv z sg ≤ 6)) = true := a2
          rw [decide_eq_true q] at a2
          cases a2
        unfold shapeOk
        rw [decide_eq_false (fun q => a2 q.2), Bool.false_and]
      · have a2 : lv z sg ≤ 6 := by
          have a2 : ¬ (!decide (lv z sg ≤ 6)) = true := a2
          simpa using a2
        refine ⟨_, rfl, g, _, ((0 : Nat) : Int), _, rfl, rfl, SqT.of hG1, atI_nat g0, _, _, rfl, rfl, _, rfl, ite2 (fun b1 => ?_) (fun b1 => ?_)⟩
        · have b1 : 0 ≤ sx sg 0 := of_decide_eq_true b1
          refine ⟨_, rfl, _, _, rfl, rfl, ⟨a1, by omega, by decide +kernel⟩, _, _, rfl, rfl, _, rfl, ite2 (fun b2 => ?_) (fun b2 => ?_)⟩
          · refine no s1 ?_
            have b2 : (!decide (sx sg 0 < 1 * 2 ^ (lv z sg).toNat)) = true := b2
            rw [Int.one_mul] at b2
            unfold shapeOk
            rw [decide_eq_false (p := 0 ≤ sx sg 0 ∧ sx sg 0 < 2 ^ (lv z sg).toNat) (fun q => by rw [decide_eq_true q.2] at b2; cases b2), Bool.false_and, Bool.and_false]
          · have b2 : sx sg 0 < 2 ^ (lv z sg).toNat := by
              have b2 : ¬ (!decide (sx sg 0 < 1 * 2 ^ (lv z sg).toNat)) = true := b2
              rw [Int.one_mul] at b2
              simpa using b2
            refine ⟨_, rfl, _, rfl, g, _, rfl, SqT.of hG1, cut_ne (a := 1) (by decide) (by rw [List.length_map]; omega), fun p2 n2 => ?_⟩
            have ec : cutV (sg.map V.int) (some ((1 : Nat) : Int)) none = (sg.drop 1).map V.int := by
              rw [cut_tail (by rw [List.length_map]; omega), List.map_drop]
            refine ⟨p2, rfl, ⟨_, SqT.of upd_same⟩, fun D hD => ?_⟩
            refine lc_it (walk_tup (K := K) (a := p2) (xs := (sg.drop 1).map V.int)) (fun i H' => Same H H' ∧ H' p2 = some (.tup ((sg.drop 1).map V.int)) ∧ H' D = some (.lst ((((sg.drop 1).take i).map fun x => decide (0 ≤ x ∧ x < 2 ^ z.toNat)).map V.bl)))
              ⟨(s1.trans (Same.new n2)).trans (Same.new hD), ?_, upd_same⟩ (fun i H' _ q => SqT.of q.2.1) ?_ ?_
            · rw [← ec]
              exact Same.new hD _ _ upd_same
            · rintro i x H2 H3 hi ⟨s2, h2, h3⟩ ⟨rfl, hx⟩
              obtain ⟨n, hn, rfl⟩ := int_of hx
              have hD0 : H D = none := (s1.trans (Same.new n2)).free hD
              refine ⟨rfl, _, rfl, h, dx, _, rfl, s2 _ _ hH, rfl, _, rfl, h, z, n, rfl, ⟨dx, s2 _ _ hH⟩, hz, _, h3, sz2 (by simp; omega), Same.put s2 hD0, ?_, ?_⟩
              · rw [upd_ne (fun q => by rw [q, h3] at h2; cases h2)]
                exact h2
              · rw [upd_same, take_next hn, List.map_append, List.map_append]
                rfl
            · rintro H2 ⟨s2, _, h3⟩
              rw [List.length_map, List.take_of_length_le (Nat.le_refl _)] at h3
              refine ⟨D, _, rfl, SqL.of h3, _, rfl, ite2 (fun c1 => ?_) (fun c1 => ?_)⟩
              · refine no s2 ?_
                have c1 : (!(((sg.drop 1).map fun x => decide (0 ≤ x ∧ x < 2 ^ z.toNat)).all id)) = true := c1
                rw [List.all_map] at c1
                unfold shapeOk
                have c2 : ((sg.drop 1).all fun x => decide (0 ≤ x ∧ x < 2 ^ z.toNat)) = false := by simpa using c1
                rw [c2, Bool.and_false, Bool.and_false]
              · have c1 : ¬ (!(((sg.drop 1).map fun x => decide (0 ≤ x ∧ x < 2 ^ z.toNat)).all id)) = true := c1
                rw [List.all_map] at c1
                have c2 : ((sg.drop 1).all fun x => decide (0 ≤ x ∧ x < 2 ^ z.toNat)) = true := by simpa using c1
                have sh : shapeOk z sg = true := by
                  unfold shapeOk
                  rw [c2, decide_eq_true ⟨a1, a2⟩, decide_eq_true ⟨b1, b2⟩]
                  rfl
                have := k H2 s2
                rw [sh] at this
                exact ⟨_, rfl, this⟩
        · refine ⟨_, rfl, iteT (no s1 ?_)⟩
          have b1 : ¬ 0 ≤ sx sg 0 := fun q => b1 (decide_eq_true q)
          unfold shapeOk
          rw [decide_eq_false (p := 0 ≤ sx sg 0 ∧ sx sg 0 < 2 ^ (lv z sg).toNat) (fun q => b1 q.1), Bool.false_and, Bool.and_false]
    · refine ⟨_, rfl, iteT (iteT (no s1 ?_))⟩
      have a1 : ¬ 0 ≤ lv z sg := fun q => a1 (decide_eq_true q)
      unfold shapeOk
      rw [decide_eq_false (fun q => a1 q.1), Bool.false_and]
end
end K11
namespace K11
open PySem L2
theorem in1_new {H H' : Hp} {R a b : Addr} {t : Int} {ns : List Int} (ha : H' a = some (.tup [.int t, .ref b])) (hb : H' b = some (.tup (ns.map V.int))) (a0 : H a = none) (b0 : H b = none) (na : a ≠ R) (nb : b ≠ R) : In1 (hide (Nw H H') R) (.ref a) (t, ns) :=
  ⟨a, b, rfl, by rw [hide.at_ na, Nw.at_ a0]; exact ha, by rw [hide.at_ nb, Nw.at_ b0]; exact hb⟩
theorem in1_out {H H' : Hp} {R : Addr} {v : V} {x : Int × List Int} (h : In1 (hide (Nw H H') R) v x) : In1 H' v x := in1_mono (hide.to.trans Nw.to) h
theorem Nd.ok {z m : Int} {sg : List Int} (hz : Wd z) (h : shapeOk z sg = true) {l : Nat} (hl : l ≤ 6) : Inp (nd z (sx sg 0) m sg l) := by
  obtain ⟨h1, h2, h3, h4, h5⟩ := shape_len h
  exact Inp_ndS hz h5 h3 (by
    have q := Int.ofNat_le.mpr (Nat.pow_le_pow_right (n := 2) (by decide) h2)
    rw [PySem.W.kbt_cast, PySem.W.kbt_cast] at q
    have e : (2 : Int) ^ 6 = 64 := by decide
    omega) hl
theorem Inp.sm {x : Int × List Int} (h : Inp x) : Sm x.2 := ⟨h.2.1, fun n hn => (h.2.2 n hn).2⟩
theorem nd_even {z i m : Int} {sg : List Int} {l : Nat} (c : i / 2 ^ l % 2 = 0) : nd z i m sg (l + 1) = (6, [(l : Int), dig2 z (nd z i m sg l), sx sg (1 + nch z + l)]) := by
  show ((6 : Int), if i / 2 ^ l % 2 = 0 then [(l : Int), dig2 z (nd z i m sg l), sx sg (1 + nch z + l)] else [(l : Int), sx sg (1 + nch z + l), dig2 z (nd z i m sg l)]) = _
  rw [if_pos c]
theorem nd_odd {z i m : Int} {sg : List Int} {l : Nat} (c : ¬ i / 2 ^ l % 2 = 0) : nd z i m sg (l + 1) = (6, [(l : Int), sx sg (1 + nch z + l), dig2 z (nd z i m sg l)]) := by
  show ((6 : Int), if i / 2 ^ l % 2 = 0 then [(l : Int), dig2 z (nd z i m sg l), sx sg (1 + nch z + l)] else [(l : Int), sx sg (1 + nch z + l), dig2 z (nd z i m sg l)]) = _
  rw [if_neg c]
theorem bit1 {i : Int} {l : Nat} : decide (V.int (i / 2 ^ ((l : Nat) : Int).toNat % 2 ^ 1) = V.int 0) = decide (i / 2 ^ l % 2 = 0) := by
  have e : (2 : Int) ^ 1 = 2 := by decide
  rw [Int.toNat_natCast, e]
  by_cases h : i / 2 ^ l % 2 = 0
  · rw [h]
    rfl
  · rw [decide_eq_false h, decide_eq_false fun q => h (V.int.inj q)]
section
variable {P : Program} {w : World} {K : PySem.W.Frag} {mg : Str → Option Value} {base : Heap} {CH CS : Addr} {f : Addr} {fd : FuncData}
abbrev s_inputs_of : Stmt := top 27
theorem sc_inputs_of : FnScope ["hasher", "message", "signature", "index", "digits", "words", "tops", "found", "path", "level", "digest", "both", "k"] ["hasher", "message", "signature"] (defScope s_inputs_of) := ⟨rfl, rfl, rfl, by decide +kernel, rfl, by decide +kernel, by decide +kernel⟩
theorem ok_inputs_of (F : Fun K "inputs_of" "inputs_of" s_inputs_of f fd) (T : Tx K mg CH CS) (c_digits_of : C8.Cal P w K mg base 2 "digits_of" spDigits []) (c_stepped : C8.Cal P w K mg base 3 "stepped" (spStepped CH) [])
    (m_Hasher_digest : C8.Met P w K mg base 2 CH "digest" (spDigest K CH) []) : FnOk P w K mg base CX0 4 f fd ["hasher", "message", "signature"] (spInputs CH) := by
  refine F.ok sc_inputs_of (fun vs H Q E h => ?_) (fun cdv A outer s H vs Q E hr h => ?_)
  · obtain ⟨h, g, z, m, sg, rfl, _⟩ := h
    rfl
  · obtain ⟨h, g, z, m, sg, rfl, ⟨dx, hH⟩, hz, hG, sh, k⟩ := h
    have hG : H g = some (.tup (sg.map V.int)) := hG
    obtain ⟨len, hL6, i0, i1, hw⟩ := shape_len sh
    have n26 := hz.nch
    have at_ : ∀ {j : Nat}, j < sg.length → (sg.map V.int)[j]? = some (.int (sx sg j)) := fun {j} hj => by
      rw [List.getElem?_map, sx_at hj]
      rfl
    refine ⟨_, (pss_cons (ps_set (i := 3) sc_inputs_of.nd rfl (Or.inr rfl) (pe_ix ix_tup (pv 2) pe_int (fun _ _ => rfl)))
        (pss_cons (ps_set (i := 4) sc_inputs_of.nd rfl (Or.inr rfl) (C8.pe_c c_digits_of hr (by decide) rfl (pa_cons (pe_fld (pv 0) rfl) (pa_cons (pv 1) pa_nil))))
        (pss_cons (ps_set (i := 5) sc_inputs_of.nd rfl (Or.inr rfl) (pe_slice sl_tup (pv 2) (po_some pe_int) (po_some (pe_op op_add (pe_callB call_len_seq (by rfl) T.len PySem.boot_len (pa_cons (pv 4) pa_nil)) pe_int))))
        (pss_cons (ps_setLc (i := 6) (own := [("k", 12)]) (g := gName 12) (tt := tYes) rfl sc_inputs_of.nd rfl rfl (sw_true rfl rfl rfl (by decide +kernel)) (pi_range1 rfl T.range (pa_cons (pe_callB call_len_seq (by rfl) T.len PySem.boot_len (pa_cons (pv 4) pa_nil)) pa_nil)) (blkOk_by (N := ["hasher", "message", "signature", "index", "digits", "words", "tops", "found", "path", "level", "digest", "both", "k"]) (sc := defScope s_inputs_of) (by decide +kernel)) (fun _ _ _ _ _ => (pg_name (i := 12) sc_inputs_of.nd rfl (by first | exact Or.inl rfl | exact Or.inr rfl))) (fun _ _ _ _ _ => pts_nil) (fun _ _ _ _ _ => (pe_ix (r := rIxL K) ix_list (C8.pe_c c_stepped hr (by decide) rfl (pa_cons (pv 0) (pa_cons (pv 3) (pa_cons (pv 12) (pa_cons (pe_ix (r := rIxT K) ix_tup (pv 5) (pv 12) (fun _ _ => rfl)) (pa_cons (pe_ix (r := rIxL K) ix_list (pv 4) (pv 12) (fun _ _ => rfl)) (pa_cons (pe_op op_sub (C8.pe_gc rfl T.gBASE) pe_int) pa_nil))))))) (pe_un un_neg pe_int) (fun _ _ => rfl))))
        (pss_cons (ps_set (i := 7) sc_inputs_of.nd rfl (Or.inl rfl) (pe_lst (pa_cons (pe_tup (pa_cons (C8.pe_gc rfl T.gKEY) (pa_cons (pe_callTy call_tuple_of (by rfl) T.tuple (by decide +kernel) (pa_cons (pe_op op_cat (pe_lst (pa_cons (pv 3) pa_nil)) (pv 6)) pa_nil)) pa_nil))) pa_nil)))
        (pss_cons (ps_set (i := 8) sc_inputs_of.nd rfl (Or.inl rfl) (pe_slice sl_tup (pv 2) (po_some (pe_op op_add (pe_callB call_len_seq (by rfl) T.len PySem.boot_len (pa_cons (pv 4) pa_nil)) pe_int)) po_none))
        (pss_cons (ps_for PassesOwn.never rfl (pi_range1 rfl T.range (pa_cons (pe_callB call_len_seq (by rfl) T.len PySem.boot_len (pa_cons (pv 8) pa_nil)) pa_nil)) (pg_name (i := 9) sc_inputs_of.nd rfl (by first | exact Or.inl rfl | exact Or.inr rfl))
          (pss_cons (ps_set (i := 10) sc_inputs_of.nd rfl (Or.inl rfl) (C8.pe_mt m_Hasher_digest hr (by decide) (pv 0) (pa_cons (pe_ix ix_tup (pe_ix ix_list (pv 7) (pe_un un_neg pe_int) (fun _ _ => rfl)) pe_int (fun _ _ => rfl)) (pa_cons (pe_ix ix_tup (pe_ix ix_list (pv 7) (pe_un un_neg pe_int) (fun _ _ => rfl)) pe_int (fun _ _ => rfl)) pa_nil))))
        (pss_cons (ps_set (i := 11) sc_inputs_of.nd rfl (Or.inl rfl) (pe_ifExp (pt_cmpR op_eq (pe_op op_andM (pe_op op_shr (pv 3) (pv 9)) pe_int) pe_int (nomark _)) (pe_tup (pa_cons (pv 10) (pa_cons (pe_ix ix_tup (pv 8) (pv 9) (fun _ _ => rfl)) pa_nil))) (pe_tup (pa_cons (pe_ix ix_tup (pv 8) (pv 9) (fun _ _ => rfl)) (pa_cons (pv 10) pa_nil)))))
        (pss_one (ps_expr (pe_bm PySem.F.plainAttrs_list PySem.F.slot_list_append PySem.F.type_list_append mt_append (pv 7) (pa_cons (pe_tup (pa_cons (C8.pe_gc rfl T.gTREE) (pa_cons (pe_op op_catT (pe_tup (pa_cons (pv 9) pa_nil)) (pv 11)) pa_nil))) pa_nil)))))))
        (pss_cons (ps_set (i := 10) sc_inputs_of.nd rfl (Or.inl rfl) (C8.pe_mt m_Hasher_digest hr (by decide) (pv 0) (pa_cons (pe_ix ix_tup (pe_ix ix_list (pv 7) (pe_un un_neg pe_int) (fun _ _ => rfl)) pe_int (fun _ _ => rfl)) (pa_cons (pe_ix ix_tup (pe_ix ix_list (pv 7) (pe_un un_neg pe_int) (fun _ _ => rfl)) pe_int (fun _ _ => rfl)) pa_nil))))
        (pss_one (ps_ret (pe_op op_cat (pv 7) (pe_lst (pa_cons (pe_tup (pa_cons (C8.pe_gc rfl T.gTREE) (pa_cons (pe_tup (pa_cons (pe_callB call_len_seq (by rfl) T.len PySem.boot_len (pa_cons (pv 8) pa_nil)) (pa_cons (pv 10) pa_nil))) pa_nil))) pa_nil))))))))))))), ?_⟩
    refine ⟨_, rfl, g, _, ((0 : Nat) : Int), _, rfl, rfl, SqT.of hG, atI_nat (at_ (by omega)), ?_⟩
    refine ⟨_, rfl, h, CH, dx, _, _, rfl, hH, T.cH, T.nH, rfl, _, rfl, z, m, rfl, hz, fun H1 d s1 n1 h1 => ?_⟩
    have hG1 := s1 _ _ hG
    have eL : ((((digits z m).map V.int).length : Nat) : Int) + 1 = ((nch z + 1 : Nat) : Int) := by
      rw [List.length_map, digits_len]
      rfl
    refine ⟨_, rfl, _, rfl, _, rfl, d, _, rfl, .inl (SqL.of h1), _, _, rfl, rfl, _, congrArg V.int eL, g, _, rfl, SqT.of hG1, cut_ne (a := 1) (by decide) (by rw [List.length_map]; omega), fun q nq => ?_⟩
    have hq : ∀ j, j < nch z → (cutV (sg.map V.int) (some ((1 : Nat) : Int)) (some ((nch z + 1 : Nat) : Int)))[j]? = some (.int (sx sg (1 + j))) := fun j hj => by
      rw [cut_at (by rw [List.length_map]; omega) (by omega)]
      exact at_ (by omega)
    obtain ⟨H2, e2⟩ : ∃ H2, H2 = upd H1 q (.tup (cutV (sg.map V.int) (some ((1 : Nat) : Int)) (some ((nch z + 1 : Nat) : Int)))) := ⟨_, rfl⟩
    have hq2 : H2 q = some (.tup (cutV (sg.map V.int) (some ((1 : Nat) : Int)) (some ((nch z + 1 : Nat) : Int)))) := by rw [e2]; exact upd_same
    have s02 : Same H H2 := by rw [e2]; exact s1.trans (Same.new nq)
    have hd2 : H2 d = some (.lst ((digits z m).map V.int)) := by rw [e2]; exact Same.new nq _ _ h1
    refine Eq.mp (congrArg _ e2) ?_
    clear e2 nq h1 s1 hG1 n1
    -- the tops
    refine ⟨_, rfl, d, _, rfl, .inl (SqL.of hd2), (nch z : Int), by rw [List.length_map, digits_len], (n62 (by omega)).1, (n62 (by omega)).2, fun D hD => ?_⟩
    refine lc_it (walk_rng (n := ((nch z : Nat) : Int).toNat)) (fun j H' => Same H2 H' ∧ H' D = some (.lst (((List.range j).map fun (j : Nat) => wk z (sx sg 0) j (dgt z m j) (sx sg (1 + j)) (15 - dgt z m j).toNat).map V.int))) ⟨Same.new hD, upd_same⟩ tr2 ?_ ?_
    · rintro j x H3 H4 hj ⟨s3, h3⟩ ⟨rfl, rfl⟩
      have hj : j < nch z := hj
      have hgd : ((digits z m).map V.int)[j]? = some (.int (dgt z m j)) := by
        rw [List.getElem?_map, dgt_mem hj]
        rfl
      have d15 := dgt_le (w := z) (m := m) j
      have s03 := s02.trans s3
      have xn : Nn (sx sg (1 + j)) := by
        rw [Nat.add_comm 1 j]
        have := sx_word hw hz j
        exact .of this.1 (by omega)
      have i64 : sx sg 0 < 64 := by
        have q := Int.ofNat_le.mpr (Nat.pow_le_pow_right (n := 2) (by decide) hL6)
        rw [PySem.W.kbt_cast, PySem.W.kbt_cast] at q
        have e : (2 : Int) ^ 6 = 64 := by decide
        omega
      refine ⟨rfl, _, rfl, _, rfl, _, rfl, _, rfl, _, rfl, q, _, ((j : Nat) : Int), _, rfl, rfl, SqT.of (s3 _ _ hq2), atI_nat (hq j hj), _, rfl, _, rfl, d, _, ((j : Nat) : Int), _, rfl, rfl, SqL.of (s3 _ _ hd2), atI_nat hgd, _, _, rfl, rfl, ?_⟩
      refine ⟨h, z, sx sg 0, j, sx sg (1 + j), dgt z m j, rfl, ⟨dx, s03 _ _ hH⟩, hz, .of i0 (by omega), .of (by omega) (by omega), xn, d15.1, d15.2, fun H5 p5 s5 n5 h5 => ?_⟩
      refine ⟨_, rfl, p5, _, _, _, rfl, rfl, SqL.of h5, atI_end (n := (15 - dgt z m j).toNat) ?_ (v := .int (wk z (sx sg 0) j (dgt z m j) (sx sg (1 + j)) (15 - dgt z m j).toNat)) ?_, _, s5 _ _ h3, sz2 (by simp; omega), ?_⟩
      · simp
        omega
      · rw [List.getElem?_map, rng_at (by omega)]
        rfl
      · exact put_int (s3.trans s5) hD rfl
    rintro H3 ⟨s3, h3⟩
    have h3 : H3 D = some (.lst ((topsS z (sx sg 0) m sg).map V.int)) := h3
    have s03 := s02.trans s3
    have lt : (topsS z (sx sg 0) m sg).length = nch z := by simp [topsS]
    refine ⟨_, rfl, by show 1 ≤ sizeLine; decide, fun p1 n1 => ?_⟩
    refine ⟨_, rfl, p1, D, _, _, rfl, rfl, upd_same, Same.new n1 _ _ h3, sz1 (by simp [lt]; omega), fun p2 n2 => ?_⟩
    refine ⟨p2, _, rfl, .inl ⟨SqL.of upd_same, fun p3 n3 => ?_⟩⟩
    refine ⟨by show 2 ≤ sizeLine; decide, fun p4 n4 => ?_⟩
    refine ⟨by show 1 ≤ sizeLine; decide, fun R nR => ?_⟩
    obtain ⟨H4, e4⟩ : ∃ H4, H4 = upd (upd (upd (upd (upd H3 p1 (.lst [.int (sx sg 0)])) p2 (.lst ([.int (sx sg 0)] ++ (topsS z (sx sg 0) m sg).map V.int))) p3 (.tup ([.int (sx sg 0)] ++ (topsS z (sx sg 0) m sg).map V.int))) p4 (.tup [.int 5, .ref p3])) R (.lst [.ref p4]) := ⟨_, rfl⟩
    have s34 : Same H3 H4 := by rw [e4]; exact ((((Same.new n1).trans (Same.new n2)).trans (Same.new n3)).trans (Same.new n4)).trans (Same.new nR)
    have hR4 : H4 R = some (.lst [.ref p4]) := by rw [e4]; exact upd_same
    have h44 : H4 p4 = some (.tup [.int 5, .ref p3]) := by rw [e4]; exact Same.new nR _ _ upd_same
    have h43 : H4 p3 = some (.tup (((sx sg 0) :: topsS z (sx sg 0) m sg).map V.int)) := by rw [e4]; exact Same.new nR _ _ (Same.new n4 _ _ upd_same)
    have p30 : H p3 = none := ((s03.trans (Same.new n1)).trans (Same.new n2)).free n3
    have p40 : H p4 = none := (((s03.trans (Same.new n1)).trans (Same.new n2)).trans (Same.new n3)).free n4
    have R0 : H R = none := ((((s03.trans (Same.new n1)).trans (Same.new n2)).trans (Same.new n3)).trans (Same.new n4)).free nR
    have np3 : p3 ≠ R := fun e => by rw [e, hR4] at h43; cases h43
    have np4 : p4 ≠ R := fun e => by rw [e, hR4] at h44; cases h44
    rw [← e4]
    clear e4 n1 n2 n3 n4 nR
    have s04 := s03.trans s34
    have eL2 : ((((digits z m).map V.int).length : Nat) : Int) + 1 = ((nch z + 1 : Nat) : Int) := eL
    have hd4 := s34 _ _ (s3 _ _ hd2)
    have hG4 := s04 _ _ hG
    refine ⟨_, rfl, _, rfl, d, _, rfl, .inl (SqL.of hd4), _, _, rfl, rfl, _, congrArg V.int eL2, g, _, rfl, SqT.of hG4, cut_ne (a := nch z + 1) (by omega) (by rw [List.length_map]; omega), fun y ny => ?_⟩
    rw [cut_tail (by rw [List.length_map]; omega)]
    obtain ⟨H5, e5⟩ : ∃ H5, H5 = upd H4 y (.tup ((sg.map V.int).drop (nch z + 1))) := ⟨_, rfl⟩
    have hy5 : H5 y = some (.tup ((sg.map V.int).drop (nch z + 1))) := by rw [e5]; exact upd_same
    have s45 : Same H4 H5 := by rw [e5]; exact Same.new ny
    rw [← e5]
    clear e5 ny
    have ylen : ((sg.map V.int).drop (nch z + 1)).length = Ls z sg := by
      rw [List.length_drop, List.length_map]
      omega
    have hyl : ∀ l, l < Ls z sg → ((sg.map V.int).drop (nch z + 1))[l]? = some (.int (sx sg (1 + nch z + l))) := fun l hl => by
      rw [List.getElem?_drop, show nch z + 1 + l = 1 + nch z + l by omega]
      exact at_ (by omega)
    generalize (sg.map V.int).drop (nch z + 1) = ys at *
    refine ⟨_, rfl, y, _, rfl, .inr (SqT.of hy5), (Ls z sg : Int), by rw [ylen], (n62 (by omega)).1, (n62 (by omega)).2, ?_⟩
    refine for_it (walk_rng (n := ((Ls z sg : Nat) : Int).toNat)) (fun l σ H' => Same H H' ∧ (∃ v9 v10 v11, σ = [some (.ref h), some (.int m), some (.ref g), some (.int (sx sg 0)), some (.ref d), some (.ref q), some (.ref D), some (.ref R), some (.ref y), v9, v10, v11, none]) ∧
        H' y = some (.tup ys) ∧ ∃ vs, H' R = some (.lst vs) ∧ All2 (In1 (hide (Nw H H') R)) vs ((List.range (l + 1)).map (nd z (sx sg 0) m sg))) ⟨s04.trans s45, ⟨none, none, none, rfl⟩, hy5, [.ref p4], s45 _ _ hR4, ?_⟩ tr3 ?_ ?_
    · exact All2.cons (vs := []) (xs := []) (in1_new (s45 _ _ h44) (s45 _ _ h43) p40 p30 np4 np3) All2.nil
    · rintro l x σ H6 H7 hl ⟨s6, ⟨v9, v10, v11, rfl⟩, hy6, vs, h6, all⟩ ⟨rfl, rfl⟩
      have hl : l < Ls z sg := hl
      have hH6 := s6 _ _ hH
      have hlen : vs.length = l + 1 := by rw [all.len]; simp
      obtain ⟨vl, hvl, r⟩ := all.get (rng_at (g := nd z (sx sg 0) m sg) (Nat.lt_succ_self l))
      obtain ⟨a, b, rfl, ha, hb⟩ := in1_out r
      have sm := (Nd.ok (m := m) hz sh (l := l) (by omega)).sm
      refine ⟨_, rfl, h, dx, _, rfl, hH6, rfl, _, rfl, _, rfl, R, vs, _, _, rfl, rfl, SqL.of h6, atI_end hlen hvl, a, _, ((0 : Nat) : Int), _, rfl, rfl, SqT.of ha, atI_nat rfl, _, rfl, _, rfl, R, vs, _, _, rfl, rfl, SqL.of h6, atI_end hlen hvl, a, _, ((1 : Nat) : Int), _, rfl, rfl, SqT.of ha, atI_nat rfl, h, b, z, _, _, rfl, ⟨dx, hH6⟩, hz, .inr (SqT.of hb), sm, fun H8 s8 => ?_⟩
      have s08 := s6.trans s8
      have hR8 := s8 _ _ h6
      have hy8 := s8 _ _ hy6
      have nyR : y ≠ R := fun q => by rw [q, h6] at hy6; cases hy6
      refine ⟨_, rfl, _, rfl, _, _, rfl, rfl, Int.natCast_nonneg l, _, 1, rfl, congrArg V.int (by decide), rfl, _, rfl, ite2 (fun c => ?_) (fun c => ?_)⟩
      · have c : sx sg 0 / 2 ^ l % 2 = 0 := of_decide_eq_true (bit1.symm.trans c)
        refine ⟨_, rfl, _, rfl, _, rfl, y, _, ((l : Nat) : Int), _, rfl, rfl, SqT.of hy8, atI_nat (hyl l hl), by show 2 ≤ sizeLine; decide, fun p1 n1 => ?_⟩
        refine ⟨_, rfl, .inl ⟨rfl, _, SqL.of (Same.new n1 _ _ hR8)⟩, _, rfl, by show 1 ≤ sizeLine; decide, fun p2 n2 => ?_⟩
        refine ⟨_, rfl, p2, p1, _, _, rfl, rfl, SqT.of upd_same, SqT.of (Same.new n2 _ _ upd_same), (fun q => nomatch q), by show 1 + 2 ≤ sizeLine; decide, (fun q => nomatch q), fun _ p3 n3 => ?_⟩
        refine ⟨by show 2 ≤ sizeLine; decide, fun p4 n4 => ?_⟩
        have sx8 := (((Same.new n1).trans (Same.new n2)).trans (Same.new n3)).trans (Same.new (o := HO.tup [V.int 6, V.ref p3]) n4)
        have hRx := sx8 _ _ hR8
        refine ⟨R, _, _, rfl, rfl, hRx, sz2 (by omega), Same.put (s08.trans sx8) R0, ⟨_, _, _, rfl⟩, ?_, _, upd_same, ?_⟩
        · rw [upd_ne nyR]
          exact sx8 _ _ hy8
        · rw [hide.upd]
          have e := nd_even (z := z) (i := sx sg 0) (m := m) (sg := sg) (l := l) c
          refine All2.next (all.mono fun v x => In1.mono _ _ _ _ (hide.grow (Nw.grow (s8.trans sx8)))) ?_
          rw [e]
          refine in1_new (a := p4) (b := p3) upd_same (Same.new n4 _ _ upd_same) ((((s08.trans (Same.new n1)).trans (Same.new n2)).trans (Same.new n3)).free n4) (((s08.trans (Same.new n1)).trans (Same.new n2)).free n3) (fun q => ?_) (fun q => ?_)
          · rw [q, ((((Same.new n1).trans (Same.new n2)).trans (Same.new n3)) _ _ hR8)] at n4
            cases n4
          · rw [q, (((Same.new n1).trans (Same.new n2)) _ _ hR8)] at n3
            cases n3
      · have c : ¬ sx sg 0 / 2 ^ l % 2 = 0 := fun q => c (bit1.trans (decide_eq_true q))
        refine ⟨_, rfl, _, rfl, y, _, ((l : Nat) : Int), _, rfl, rfl, SqT.of hy8, atI_nat (hyl l hl), _, rfl, by show 2 ≤ sizeLine; decide, fun p1 n1 => ?_⟩
        refine ⟨_, rfl, .inl ⟨rfl, _, SqL.of (Same.new n1 _ _ hR8)⟩, _, rfl, by show 1 ≤ sizeLine; decide, fun p2 n2 => ?_⟩
        refine ⟨_, rfl, p2, p1, _, _, rfl, rfl, SqT.of upd_same, SqT.of (Same.new n2 _ _ upd_same), (fun q => nomatch q), by show 1 + 2 ≤ sizeLine; decide, (fun q => nomatch q), fun _ p3 n3 => ?_⟩
        refine ⟨by show 2 ≤ sizeLine; decide, fun p4 n4 => ?_⟩
        have sx8 := (((Same.new n1).trans (Same.new n2)).trans (Same.new n3)).trans (Same.new (o := HO.tup [V.int 6, V.ref p3]) n4)
        have hRx := sx8 _ _ hR8
        refine ⟨R, _, _, rfl, rfl, hRx, sz2 (by omega), Same.put (s08.trans sx8) R0, ⟨_, _, _, rfl⟩, ?_, _, upd_same, ?_⟩
        · rw [upd_ne nyR]
          exact sx8 _ _ hy8
        · rw [hide.upd]
          have e := nd_odd (z := z) (i := sx sg 0) (m := m) (sg := sg) (l := l) c
          refine All2.next (all.mono fun v x => In1.mono _ _ _ _ (hide.grow (Nw.grow (s8.trans sx8)))) ?_
          rw [e]
          refine in1_new (a := p4) (b := p3) upd_same (Same.new n4 _ _ upd_same) ((((s08.trans (Same.new n1)).trans (Same.new n2)).trans (Same.new n3)).free n4) (((s08.trans (Same.new n1)).trans (Same.new n2)).free n3) (fun q => ?_) (fun q => ?_)
          · rw [q, ((((Same.new n1).trans (Same.new n2)).trans (Same.new n3)) _ _ hR8)] at n4
            cases n4
          · rw [q, (((Same.new n1).trans (Same.new n2)) _ _ hR8)] at n3
            cases n3
    · rintro σ H6 ⟨s6, ⟨v9, v10, v11, rfl⟩, hy6, vs, h6, all⟩
      have hH6 := s6 _ _ hH
      have hlen : vs.length = (Ls z sg) + 1 := by rw [all.len]; simp
      obtain ⟨vl, hvl, r⟩ := all.get (rng_at (g := nd z (sx sg 0) m sg) (Nat.lt_succ_self (Ls z sg)))
      obtain ⟨a, b, rfl, ha, hb⟩ := in1_out r
      have sm := (Nd.ok (m := m) hz sh (l := (Ls z sg)) (by omega)).sm
      refine ⟨_, rfl, h, dx, _, rfl, hH6, rfl, _, rfl, _, rfl, R, vs, _, _, rfl, rfl, SqL.of h6, atI_end hlen hvl, a, _, ((0 : Nat) : Int), _, rfl, rfl, SqT.of ha, atI_nat rfl, _, rfl, _, rfl, R, vs, _, _, rfl, rfl, SqL.of h6, atI_end hlen hvl, a, _, ((1 : Nat) : Int), _, rfl, rfl, SqT.of ha, atI_nat rfl, h, b, z, _, _, rfl, ⟨dx, hH6⟩, hz, .inr (SqT.of hb), sm, fun H8 s8 => ?_⟩
      have s08 := s6.trans s8
      have hR8 := s8 _ _ h6
      have hy8 := s8 _ _ hy6
      refine ⟨_, rfl, _, rfl, y, _, rfl, .inr (SqT.of hy8), _, rfl, by show 2 ≤ sizeLine; decide, fun p1 n1 => ?_⟩
      refine ⟨by show 2 ≤ sizeLine; decide, fun p2 n2 => ⟨by show 1 ≤ sizeLine; decide, fun p3 n3 => ?_⟩⟩
      have sx8 := ((Same.new n1).trans (Same.new n2)).trans (Same.new (o := HO.lst [V.ref p2]) n3)
      refine ⟨R, p3, _, _, rfl, rfl, sx8 _ _ hR8, upd_same, sz1 (by show vs.length + 1 ≤ 10000; omega), fun p4 n4 => ?_⟩
      have n40 : H p4 = none := (s08.trans sx8).free n4
      refine k _ _ ((s08.trans sx8).trans (Same.new n4)) ⟨p4, vs ++ [.ref p2], rfl, ?_, ?_⟩
      · rw [Nw.at_ n40]
        exact upd_same
      · refine (all.mono fun v x q => In1.mono _ _ _ _ (hide.to.trans (Nw.grow ((s8.trans sx8).trans (Same.new n4)))) q).snoc ?_
        refine ⟨p2, p1, rfl, ?_, ?_⟩
        · rw [Nw.at_ ((s08.trans (Same.new n1)).free n2)]
          exact Same.new n4 _ _ (Same.new n3 _ _ upd_same)
        · rw [Nw.at_ (s08.free n1)]
          refine (Same.new n4 _ _ (Same.new n3 _ _ (Same.new n2 _ _ upd_same))).trans ?_
          rw [ylen]
          rfl
abbrev s_verify : Stmt := top 28
theorem sc_verify : FnScope ["hasher", "public", "message", "signature", "tag", "numbers"] ["hasher", "public", "message", "signature"] (defScope s_verify) := ⟨rfl, rfl, rfl, by decide +kernel, rfl, by decide +kernel, by decide +kernel⟩
theorem ok_verify (F : Fun K "verify" "verify" s_verify f fd) (T : Tx K mg CH CS) (c_levels_of : C8.Cal P w K mg base 2 "levels_of" (spLevels CH) []) (c_inputs_of : C8.Cal P w K mg base 4 "inputs_of" (spInputs CH) [])
    (m_Hasher_digest : C8.Met P w K mg base 2 CH "digest" (spDigest K CH) []) : FnOk P w K mg base CX0 5 f fd ["hasher", "public", "message", "signature"] (spVerify CH) := by
  refine F.ok sc_verify (fun vs H Q E h => ?_) (fun cdv A outer s H vs Q E hr h => ?_)
  · obtain ⟨h, g, z, m, U, sg, rfl, _⟩ := h
    rfl
  · obtain ⟨h, g, z, m, U, sg, rfl, ⟨dx, hH⟩, hz, hG, h2, h100, k⟩ := h
    refine ⟨_, (pss_cons (ps_if (pt_cmp (pc_isN (C8.pe_c c_levels_of hr (by decide) rfl (pa_cons (pv 0) (pa_cons (pv 3) pa_nil))))) (pss_one (ps_ret pe_bl)) pss_nil)
        (pss_cons (ps_asg (pe_ix ix_list (C8.pe_c c_inputs_of hr (by decide) rfl (pa_cons (pv 0) (pa_cons (pv 2) (pa_cons (pv 3) pa_nil)))) (pe_un un_neg pe_int) (fun _ _ => rfl)) (pg_tup rfl (pgs_cons (pg_name (i := 4) sc_verify.nd rfl (by first | exact Or.inl rfl | exact Or.inr rfl)) (pgs_cons (pg_name (i := 5) sc_verify.nd rfl (by first | exact Or.inl rfl | exact Or.inr rfl)) pgs_nil))))
        (pss_one (ps_ret (pe_cmpR op_eq (C8.pe_mt m_Hasher_digest hr (by decide) (pv 0) (pa_cons (pv 4) (pa_cons (pv 5) pa_nil))) (pv 1) (nomark _)))))), ?_⟩
    refine ⟨_, rfl, _, rfl, h, g, z, sg, rfl, ⟨dx, hH⟩, hz, hG, h2, h100, fun H1 s1 => ⟨_, rfl, ?_⟩⟩
    cases sh : shapeOk z sg with
    | false =>
      have := k _ s1
      rw [sh] at this
      exact this
    | true =>
      have hG1 := s1 _ _ hG
      have hH1 := s1 _ _ hH
      obtain ⟨len, hL6, _⟩ := shape_len sh
      refine ⟨_, rfl, _, rfl, _, rfl, h, g, z, m, sg, rfl, ⟨dx, hH1⟩, hz, hG1, sh, fun H2 v s2 r => ?_⟩
      obtain ⟨a, vs, rfl, ha, all⟩ := r
      obtain ⟨vl, hvl, r⟩ := all.get told_top
      obtain ⟨p, q, rfl, hp, hq⟩ := in1_mono Nw.to r
      have hH2 := s2 _ _ hH1
      refine ⟨_, rfl, a, vs, _, _, rfl, rfl, SqL.of (Nw.to _ _ ha), atI_end (by rw [all.len, told_len]) hvl, p, _, rfl, SqT.of hp, rfl, _, _, rfl, _, _, rfl, rfl, ?_⟩
      refine ⟨_, rfl, h, dx, _, rfl, hH2, rfl, _, rfl, _, rfl, h, q, z, _, _, rfl, ⟨dx, hH2⟩, hz, .inr (SqT.of hq), ⟨by show 2 ≤ 100; decide, ?_⟩, fun H3 s3 => ?_⟩
      · intro n hn
        have q1 : (Ls z sg : Int) < 2 ^ 128 := by rw [p128]; omega
        simp only [List.mem_cons, List.not_mem_nil, or_false] at hn
        rcases hn with rfl | rfl
        · exact q1
        · exact dig_lt _ _ _
      · refine ⟨_, rfl, rfl, ?_⟩
        have := k _ ((s1.trans s2).trans s3)
        rw [sh, Bool.true_and] at this
        have e : decide (V.int (dig z 6 [(Ls z sg : Int), dig2 z (nd z (sx sg 0) m sg (Ls z sg))]) = V.int U) = decide (lastD z m sg = U) := by
          by_cases q : lastD z m sg = U
          · rw [decide_eq_true q]
            exact decide_eq_true (congrArg V.int q)
          · rw [decide_eq_false q]
            exact decide_eq_false fun y => q (V.int.inj y)
        show Q (V.bl (decide (V.int (dig z 6 [(Ls z sg : Int), dig2 z (nd z (sx sg 0) m sg (Ls z sg))]) = V.int U))) _
        rw [e]
        exact this
end
end K11
namespace K11
open PySem L2
theorem even_of {q : Nat} : Builtin.bitAnd ((q : Nat) : Int) (Builtin.bitNot 1) = ((2 * (q / 2) : Nat) : Int) := by
  have e : Builtin.bitAnd ((q : Nat) : Int) (Builtin.bitNot 1) = (q : Int) - ((q &&& 1 : Nat) : Int) := rfl
  rw [e, Nat.and_one_is_mod]
  omega
theorem shr_nat {i l : Nat} : ((i : Nat) : Int) / 2 ^ ((l : Nat) : Int).toNat = ((i / 2 ^ l : Nat) : Int) := by
  rw [Int.toNat_natCast, Int.natCast_ediv, PySem.W.kbt_cast]
theorem q_of {i l : Nat} : (((i : Nat) : Int) / 2 ^ (l + 1)).toNat = i / 2 ^ l / 2 := by
  rw [← PySem.W.kbt_cast (l + 1), ← Int.natCast_ediv, Int.toNat_natCast, Nat.pow_succ, Nat.div_div_eq_div_mul]
theorem q_lt {i l L : Nat} (hi : i < 2 ^ L) (hl : l < L) : 2 * (i / 2 ^ l / 2) + 1 < 2 ^ (L - l) := by
  have e := half_pow hl
  have a : i / 2 ^ l < 2 ^ (L - l) := by
    refine Nat.div_lt_of_lt_mul ?_
    rw [← Nat.pow_add, show l + (L - l) = L by omega]
    exact hi
  omega
theorem tn_succ {z y : Int} {i l : Nat} : tn z y i (l + 1) = (6, [(l : Int), row z y l (2 * (i / 2 ^ l / 2)), row z y l (2 * (i / 2 ^ l / 2) + 1)]) := by
  show ((6 : Int), [(l : Int), row z y l (2 * ((i : Int) / 2 ^ (l + 1)).toNat), row z y l (2 * ((i : Int) / 2 ^ (l + 1)).toNat + 1)]) = _
  rw [q_of]
section
variable {P : Program} {w : World} {K : PySem.W.Frag} {mg : Str → Option Value} {base : Heap} {CH CS : Addr} {f : Addr} {fd : FuncData}
abbrev s_true_inputs : Stmt := top 29
theorem sc_true_inputs : FnScope ["signer", "index", "found", "level", "row", "left"] ["signer", "index"] (defScope s_true_inputs) := ⟨rfl, rfl, rfl, by decide +kernel, rfl, by decide +kernel, by decide +kernel⟩
theorem ok_true_inputs (F : Fun K "true_inputs" "true_inputs" s_true_inputs f fd) (T : Tx K mg CH CS) (m_Signer_tops : C8.Met P w K mg base 3 CS "tops" (spTops CH CS) []) :
    FnOk P w K mg base CX0 4 f fd ["signer", "index"] (spTrue CH CS) := by
  refine F.ok sc_true_inputs (fun vs H Q E h => ?_) (fun cdv A outer s H vs Q E hr h => ?_)
  · obtain ⟨p, z, y, L, i, rfl, _⟩ := h
    rfl
  · obtain ⟨p, z, y, L, i, rfl, S, hz, hy, hL, hi, k⟩ := h
    obtain ⟨dx, fs, h, vw, vr, hP, hF, hH, lw, kw, lr, kr, lp⟩ := S.ex
    have n26 := hz.nch
    have i64 := two_le6 hL
    have lt : (topsL z y i).length = nch z := by simp [topsL]
    have pre : PreW CH CS H p z y L := ⟨dx, fs, h, vw, hP, hF, hH, hz, lw, kw⟩
    obtain ⟨ar, rs, rfl, har, allr⟩ := kr
    refine ⟨_, (pss_cons (ps_set (i := 2) sc_true_inputs.nd rfl (Or.inl rfl) (pe_lst (pa_cons (pe_tup (pa_cons (C8.pe_gc rfl T.gKEY) (pa_cons (pe_callTy call_tuple_of (by rfl) T.tuple (by decide +kernel) (pa_cons (pe_op op_cat (pe_lst (pa_cons (pv 1) pa_nil)) (C8.pe_mt m_Signer_tops hr (by decide) (pv 0) (pa_cons (pv 1) pa_nil))) pa_nil)) pa_nil))) pa_nil)))
        (pss_cons (ps_for PassesOwn.never rfl (pi_range1 rfl T.range (pa_cons (pe_fld (pv 0) rfl) pa_nil)) (pg_name (i := 3) sc_true_inputs.nd rfl (by first | exact Or.inl rfl | exact Or.inr rfl))
          (pss_cons (ps_set (i := 4) sc_true_inputs.nd rfl (Or.inl rfl) (pe_ix ix_list (pe_fld (pv 0) rfl) (pv 3) (fun _ _ => rfl)))
        (pss_cons (ps_set (i := 5) sc_true_inputs.nd rfl (Or.inl rfl) (pe_op op_and (pe_op op_shr (pv 1) (pv 3)) (pe_un un_inv pe_int)))
        (pss_one (ps_expr (pe_bm PySem.F.plainAttrs_list PySem.F.slot_list_append PySem.F.type_list_append mt_append (pv 2) (pa_cons (pe_tup (pa_cons (C8.pe_gc rfl T.gTREE) (pa_cons (pe_tup (pa_cons (pv 3) (pa_cons (pe_ix ix_list (pv 4) (pv 5) (fun _ _ => rfl)) (pa_cons (pe_ix ix_list (pv 4) (pe_op op_add (pv 5) pe_int) (fun _ _ => rfl)) pa_nil)))) pa_nil))) pa_nil)))))))
        (pss_one (ps_ret (pe_op op_cat (pv 2) (pe_lst (pa_cons (pe_tup (pa_cons (C8.pe_gc rfl T.gTREE) (pa_cons (pe_tup (pa_cons (pe_fld (pv 0) rfl) (pa_cons (pe_ix ix_list (pe_ix ix_list (pe_fld (pv 0) rfl) (pe_un un_neg pe_int) (fun _ _ => rfl)) pe_int (fun _ _ => rfl)) pa_nil))) pa_nil))) pa_nil))))))), ?_⟩
    refine ⟨_, rfl, by show 1 ≤ sizeLine; decide, fun p1 n1 => ?_⟩
    refine ⟨_, rfl, p, dx, fs, rfl, Same.new n1 _ _ hP, hF.m4, _, rfl, p, z, y, L, i, rfl, pre.mono (Same.new n1), hy, hi, fun H2 q s2 n2 h2 => ?_⟩
    refine ⟨p1, q, _, _, rfl, rfl, s2 _ _ upd_same, h2, sz1 (by simp [lt]; omega), fun p2 n2' => ?_⟩
    refine ⟨p2, _, rfl, .inl ⟨SqL.of upd_same, fun p3 n3 => ?_⟩⟩
    refine ⟨by show 2 ≤ sizeLine; decide, fun p4 n4 => ⟨by show 1 ≤ sizeLine; decide, fun R nR => ?_⟩⟩
    have s02 := (Same.new n1).trans s2
    obtain ⟨H4, e4⟩ : ∃ H4, H4 = upd (upd (upd (upd H2 p2 (.lst ([.int i] ++ (topsL z y i).map V.int))) p3 (.tup ([.int i] ++ (topsL z y i).map V.int))) p4 (.tup [.int 5, .ref p3])) R (.lst [.ref p4]) := ⟨_, rfl⟩
    have s24 : Same H2 H4 := by rw [e4]; exact (((Same.new n2').trans (Same.new n3)).trans (Same.new n4)).trans (Same.new nR)
    have hR4 : H4 R = some (.lst [.ref p4]) := by rw [e4]; exact upd_same
    have h44 : H4 p4 = some (.tup [.int 5, .ref p3]) := by rw [e4]; exact Same.new nR _ _ upd_same
    have h43 : H4 p3 = some (.tup (((i : Int) :: topsL z y i).map V.int)) := by rw [e4]; exact Same.new nR _ _ (Same.new n4 _ _ upd_same)
    have p30 : H p3 = none := (s02.trans (Same.new n2')).free n3
    have p40 : H p4 = none := ((s02.trans (Same.new n2')).trans (Same.new n3)).free n4
    have R0 : H R = none := (((s02.trans (Same.new n2')).trans (Same.new n3)).trans (Same.new n4)).free nR
    have np3 : p3 ≠ R := fun e => by rw [e, hR4] at h43; cases h43
    have np4 : p4 ≠ R := fun e => by rw [e, hR4] at h44; cases h44
    rw [← e4]
    clear e4 n2' n3 n4 nR
    have s04 := s02.trans s24
    refine ⟨_, rfl, p, CS, dx, fs, _, rfl, s04 _ _ hP, T.cS, T.nS3, hF.levels, (L : Int), rfl, (n62 (by omega)).1, (n62 (by omega)).2, ?_⟩
    refine for_it (walk_rng (n := ((L : Nat) : Int).toNat)) (fun l σ H' => Same H H' ∧ (∃ v3 v4 v5, σ = [some (.ref p), some (.int i), some (.ref R), v3, v4, v5]) ∧ ∃ vs, H' R = some (.lst vs) ∧ All2 (In1 (hide (Nw H H') R)) vs ((List.range (l + 1)).map (tn z y i)))
      ⟨s04, ⟨none, none, none, rfl⟩, [.ref p4], hR4, ?_⟩ tr3 ?_ ?_
    · exact All2.cons (vs := []) (xs := []) (in1_new h44 h43 p40 p30 np4 np3) All2.nil
    · rintro l x σ H6 H7 hl ⟨s6, ⟨v3, v4, v5, rfl⟩, vs, h6, all⟩ ⟨rfl, rfl⟩
      have hl : l < L := hl
      have hP6 := s6 _ _ hP
      have hlen : vs.length = l + 1 := by rw [all.len]; simp
      obtain ⟨vl, hvl, rl, rfl, hrl⟩ := allr.get (rng_at (g := rowL z y L) (Nat.lt_succ_of_lt hl))
      have hrl6 := s6 _ _ hrl
      have hq := q_lt hi hl
      have g1 : ((rowL z y L l).map V.int)[2 * (i / 2 ^ l / 2)]? = some (.int (row z y l (2 * (i / 2 ^ l / 2)))) := by
        rw [rowL, List.getElem?_map, rng_at (by omega)]
        rfl
      have g2 : ((rowL z y L l).map V.int)[2 * (i / 2 ^ l / 2) + 1]? = some (.int (row z y l (2 * (i / 2 ^ l / 2) + 1))) := by
        rw [rowL, List.getElem?_map, rng_at (by omega)]
        rfl
      have eb : Builtin.bitAnd (((i : Nat) : Int) / 2 ^ ((l : Nat) : Int).toNat) (Builtin.bitNot 1) = ((2 * (i / 2 ^ l / 2) : Nat) : Int) := by
        rw [shr_nat, even_of]
      have eb1 : Builtin.bitAnd (((i : Nat) : Int) / 2 ^ ((l : Nat) : Int).toNat) (Builtin.bitNot 1) + 1 = ((2 * (i / 2 ^ l / 2) + 1 : Nat) : Int) := by
        rw [eb]
        rfl
      refine ⟨_, rfl, p, CS, dx, fs, _, rfl, hP6, T.cS, T.nS5, lr, _, rfl, ar, rs, ((l : Nat) : Int), _, rfl, rfl, SqL.of (s6 _ _ har), atI_nat hvl, ?_⟩
      refine ⟨_, rfl, _, rfl, _, _, rfl, rfl, Int.natCast_nonneg l, _, rfl, _, _, rfl, rfl, ?_⟩
      refine ⟨_, rfl, .inl ⟨rfl, _, SqL.of h6⟩, _, rfl, _, rfl, _, rfl, rl, _, _, _, rfl, congrArg V.int eb, SqL.of hrl6, atI_nat g1, _, rfl, _, rfl, _, _, rfl, rfl, rl, _, _, _, rfl, congrArg V.int eb1, SqL.of hrl6, atI_nat g2, by show 3 ≤ sizeLine; decide, fun p3 n3 => ?_⟩
      refine ⟨by show 2 ≤ sizeLine; decide, fun p4 n4 => ?_⟩
      have sx8 := (Same.new n3).trans (Same.new (o := HO.tup [V.int 6, V.ref p3]) n4)
      have hRx := sx8 _ _ h6
      refine ⟨R, _, _, rfl, rfl, hRx, sz2 (by omega), Same.put (s6.trans sx8) R0, ⟨_, _, _, rfl⟩, _, upd_same, ?_⟩
      rw [hide.upd]
      refine All2.next (all.mono fun v x => In1.mono _ _ _ _ (hide.grow (Nw.grow sx8))) ?_
      rw [tn_succ]
      refine in1_new (a := p4) (b := p3) upd_same (Same.new n4 _ _ upd_same) ((s6.trans (Same.new n3)).free n4) (s6.free n3) (fun q => ?_) (fun q => ?_)
      · rw [q, Same.new n3 _ _ h6] at n4
        cases n4
      · rw [q, h6] at n3
        cases n3
    · rintro σ H6 ⟨s6, ⟨v3, v4, v5, rfl⟩, vs, h6, all⟩
      have hP6 := s6 _ _ hP
      have hlen : vs.length = L + 1 := by rw [all.len]; simp
      obtain ⟨vl, hvl, rl, rfl, hrl⟩ := allr.get (rng_at (g := rowL z y L) (Nat.lt_succ_self L))
      have hrlen : rs.length = L + 1 := by rw [allr.len]; simp [rowsL]
      have g0 : ((rowL z y L L).map V.int)[0]? = some (.int (row z y L 0)) := by
        rw [rowL, Nat.sub_self]
        rfl
      refine ⟨_, rfl, _, rfl, p, CS, dx, fs, _, rfl, hP6, T.cS, T.nS3, hF.levels, _, rfl, p, CS, dx, fs, _, rfl, hP6, T.cS, T.nS5, lr, _, rfl, ar, rs, _, _, rfl, rfl, SqL.of (s6 _ _ har), atI_end hrlen hvl, rl, _, ((0 : Nat) : Int), _, rfl, rfl, SqL.of (s6 _ _ hrl), atI_nat g0, by show 2 ≤ sizeLine; decide, fun p1 n1 => ?_⟩
      refine ⟨by show 2 ≤ sizeLine; decide, fun p2 n2 => ⟨by show 1 ≤ sizeLine; decide, fun p3 n3 => ?_⟩⟩
      have sx8 := ((Same.new n1).trans (Same.new n2)).trans (Same.new (o := HO.lst [V.ref p2]) n3)
      refine ⟨R, p3, _, _, rfl, rfl, sx8 _ _ h6, upd_same, sz1 (by show vs.length + 1 ≤ 10000; omega), fun p4 n4 => ?_⟩
      have n40 : H p4 = none := (s6.trans sx8).free n4
      refine k _ _ ((s6.trans sx8).trans (Same.new n4)) ⟨p4, vs ++ [.ref p2], rfl, ?_, ?_⟩
      · rw [Nw.at_ n40]
        exact upd_same
      · refine (all.mono fun v x q => In1.mono _ _ _ _ (hide.to.trans (Nw.grow (sx8.trans (Same.new n4)))) q).snoc ?_
        refine ⟨p2, p1, rfl, ?_, ?_⟩
        · rw [Nw.at_ ((s6.trans (Same.new n1)).free n2)]
          exact Same.new n4 _ _ (Same.new n3 _ _ upd_same)
        · rw [Nw.at_ (s6.free n1)]
          exact Same.new n4 _ _ (Same.new n3 _ _ (Same.new n2 _ _ upd_same))
abbrev s_merged : Stmt := top 30
theorem sc_merged : FnScope ["signer", "index", "chain", "step", "word", "hasher", "told", "true", "k"] ["signer", "index", "chain", "step", "word"] (defScope s_merged) := ⟨rfl, rfl, rfl, by decide +kernel, rfl, by decide +kernel, by decide +kernel⟩
theorem ok_merged (F : Fun K "merged" "merged" s_merged f fd) (T : Tx K mg CH CS) (c_stepped : C8.Cal P w K mg base 3 "stepped" (spStepped CH) []) (m_Signer_word : C8.Met P w K mg base 1 CS "word" (spWord CH CS) [])
    (c_collision : C8.Cal P w K mg base 1 "collision" spColl []) : FnOk P w K mg base CX0 4 f fd ["signer", "index", "chain", "step", "word"] (spMerged CH CS) := by
  refine F.ok sc_merged (fun vs H Q E h => ?_) (fun cdv A outer s H vs Q E hr h => ?_)
  · obtain ⟨p, z, y, d, x, L, i, c, rfl, _⟩ := h
    rfl
  · obtain ⟨p, z, y, d, x, L, i, c, rfl, S, hz, hL, hi, hc, d0, d15, hx, k⟩ := h
    obtain ⟨d, rfl⟩ := Int.eq_ofNat_of_zero_le d0
    obtain ⟨dx, fs, h, vw, vr, hP, hF, hH, lw, kw, lr, kr, lp⟩ := S.ex
    have n26 := hz.nch
    have i64 := two_le6 hL
    have pre : PreW CH CS H p z y L := ⟨dx, fs, h, vw, hP, hF, hH, hz, lw, kw⟩
    have d15 : d ≤ 15 := by omega
    refine ⟨_, (pss_cons (ps_set (i := 5) sc_merged.nd rfl (Or.inl rfl) (pe_fld (pv 0) rfl))
        (pss_cons (ps_set (i := 6) sc_merged.nd rfl (Or.inl rfl) (C8.pe_c c_stepped hr (by decide) rfl (pa_cons (pv 5) (pa_cons (pv 1) (pa_cons (pv 2) (pa_cons (pv 4) (pa_cons (pv 3) (pa_cons (pe_op op_sub (C8.pe_gc rfl T.gBASE) pe_int) pa_nil))))))))
        (pss_cons (ps_set (i := 7) sc_merged.nd rfl (Or.inl rfl) (C8.pe_c c_stepped hr (by decide) rfl (pa_cons (pv 5) (pa_cons (pv 1) (pa_cons (pv 2) (pa_cons (C8.pe_mt m_Signer_word hr (by decide) (pv 0) (pa_cons (pv 1) (pa_cons (pv 2) (pa_cons (pv 3) pa_nil)))) (pa_cons (pv 3) (pa_cons (pe_op op_sub (C8.pe_gc rfl T.gBASE) pe_int) pa_nil))))))))
        (pss_cons (ps_for PassesOwn.never rfl (pi_range1 rfl T.range (pa_cons (pe_op op_sub (pe_callB call_len_seq (by rfl) T.len PySem.boot_len (pa_cons (pv 6) pa_nil)) pe_int) pa_nil)) (pg_name (i := 8) sc_merged.nd rfl (by first | exact Or.inl rfl | exact Or.inr rfl))
          (pss_one (ps_if (pt_cmpR op_eq (pe_ix ix_list (pv 6) (pe_op op_add (pv 8) pe_int) (fun _ _ => rfl)) (pe_ix ix_list (pv 7) (pe_op op_add (pv 8) pe_int) (fun _ _ => rfl)) (nomark _)) (pss_one (ps_ret (C8.pe_c c_collision hr (by decide) rfl (pa_cons (pe_tup (pa_cons (C8.pe_gc rfl T.gCHAIN) (pa_cons (pe_tup (pa_cons (pv 1) (pa_cons (pv 2) (pa_cons (pe_op op_add (pv 3) (pv 8)) (pa_cons (pe_ix ix_list (pv 7) (pv 8) (fun _ _ => rfl)) pa_nil))))) pa_nil))) (pa_cons (pe_tup (pa_cons (C8.pe_gc rfl T.gCHAIN) (pa_cons (pe_tup (pa_cons (pv 1) (pa_cons (pv 2) (pa_cons (pe_op op_add (pv 3) (pv 8)) (pa_cons (pe_ix ix_list (pv 6) (pv 8) (fun _ _ => rfl)) pa_nil))))) pa_nil))) pa_nil))))) pss_nil)))
        (pss_one (ps_ret pe_non)))))), ?_⟩
    refine ⟨_, rfl, p, CS, dx, fs, _, rfl, hP, T.cS, T.nS1, hF.hasher, ?_⟩
    have ni : Nn (i : Int) := .of (by omega) (by omega)
    have nc : Nn (c : Int) := .of (by omega) (by omega)
    refine ⟨_, rfl, _, rfl, _, rfl, _, rfl, _, rfl, _, _, rfl, rfl, h, z, i, c, x, d, rfl, hH, hz, ni, nc, hx, d0, by omega, fun H1 p1 s1 n1 h1 => ?_⟩
    refine ⟨_, rfl, _, rfl, _, rfl, _, rfl, p, dx, fs, rfl, s1 _ _ hP, hF.m3, _, rfl, _, rfl, _, rfl, p, z, y, L, i, c, d, rfl, pre.mono s1, hi, hc, by omega, ?_⟩
    refine ⟨_, rfl, _, _, rfl, rfl, h, z, i, c, wd z y i c d, d, rfl, hH.mono s1, hz, ni, nc, nn_wd _ _ _ _ _, d0, by omega, fun H2 p2 s2 n2 h2 => ?_⟩
    have h1 := s2 _ _ h1
    have s02 := s1.trans s2
    clear s1 s2 n1 n2
    have el : (((((List.range (16 - (d : Int)).toNat).map (wk z i c d x)).map V.int).length : Nat) : Int) - 1 = ((15 - d : Nat) : Int) := by
      simp
      omega
    have e16 : (16 - (d : Int)).toNat = (15 - d) + 1 := by omega
    refine ⟨_, rfl, p1, _, rfl, .inl (SqL.of h1), _, _, rfl, rfl, ((15 - d : Nat) : Int), congrArg (fun q => [V.int q]) el, (n62 (by omega)).1, (n62 (by omega)).2, ?_⟩
    have e15 : (15 - (d : Int)).toNat = 15 - d := by omega
    refine for_it (walk_rng (n := ((15 - d : Nat) : Int).toNat)) (fun t σ H' => Same H2 H' ∧ (∃ v, σ = [some (.ref p), some (.int i), some (.int c), some (.int d), some (.int x), some (.ref h), some (.ref p1), some (.ref p2), v]) ∧ ∀ j, j < t → wk z i c d x (j + 1) ≠ wd z y i c (d + j + 1))
      ⟨Same.refl _, ⟨none, rfl⟩, fun j hj => by omega⟩ tr3 ?_ ?_
    · rintro t x' σ H3 H4 ht ⟨s3, ⟨v, rfl⟩, no⟩ ⟨rfl, rfl⟩
      have ht : t < 15 - d := ht
      have a1 : ∀ j, j ≤ 15 - d → (((List.range (16 - (d : Int)).toNat).map (wk z i c d x)).map V.int)[j]? = some (.int (wk z i c d x j)) := fun j hj => by
        rw [List.getElem?_map, rng_at (by omega)]
        rfl
      have a2 : ∀ j, j ≤ 15 - d → (((List.range (16 - (d : Int)).toNat).map (wk z i c d (wd z y i c d))).map V.int)[j]? = some (.int (wd z y i c (d + j))) := fun j hj => by
        rw [List.getElem?_map, rng_at (by omega), wd_add]
        rfl
      have h13 := s3 _ _ h1
      have h23 := s3 _ _ h2
      have et : ((t : Nat) : Int) + 1 = ((t + 1 : Nat) : Int) := rfl
      refine ⟨_, rfl, _, rfl, _, _, rfl, rfl, p1, _, ((t + 1 : Nat) : Int), _, rfl, rfl, SqL.of h13, atI_nat (a1 (t + 1) (by omega)), _, rfl, _, rfl, _, _, rfl, rfl, p2, _, ((t + 1 : Nat) : Int), _, rfl, rfl, SqL.of h23, atI_nat (a2 (t + 1) (by omega)), rfl, _, rfl, ite2 (fun e => ?_) (fun e => ?_)⟩
      · have e : wk z i c d x (t + 1) = wd z y i c (d + t + 1) := V.int.inj (of_decide_eq_true e)
        have em : meet z y i c d x = .coll (4, [(i : Int), c, (d : Int) + t, wd z y i c (d + t)]) (4, [(i : Int), c, (d : Int) + t, wk z i c d x t]) := by
          unfold meet
          rw [e15, Int.toNat_natCast, find_some ht (decide_eq_true e) fun j hj => decide_eq_false (no j hj)]
        rw [em] at k
        refine ⟨_, rfl, _, rfl, _, rfl, _, rfl, _, _, rfl, rfl, _, rfl, _, rfl, p2, _, ((t : Nat) : Int), _, rfl, rfl, SqL.of h23, atI_nat (a2 t (by omega)), by show 4 ≤ sizeLine; decide, fun q1 m1 => ?_⟩
        refine ⟨by show 2 ≤ sizeLine; decide, fun q2 m2 => ?_⟩
        refine ⟨_, rfl, _, rfl, _, rfl, _, rfl, _, _, rfl, rfl, _, rfl, _, rfl, p1, _, ((t : Nat) : Int), _, rfl, rfl, SqL.of (Same.new m2 _ _ (Same.new m1 _ _ h13)), atI_nat (a1 t (by omega)), by show 4 ≤ sizeLine; decide, fun q3 m3 => ?_⟩
        refine ⟨by show 2 ≤ sizeLine; decide, fun q4 m4 => ?_⟩
        refine ⟨_, _, (4, [(i : Int), c, (d : Int) + t, wd z y i c (d + t)]), (4, [(i : Int), c, (d : Int) + t, wk z i c d x t]), rfl, ⟨q2, q1, rfl, ?_, ?_⟩, ⟨q4, q3, rfl, upd_same, Same.new m4 _ _ upd_same⟩, fun H5 v s5 r => ?_⟩
        · exact Same.new m4 _ _ (Same.new m3 _ _ upd_same)
        · exact Same.new m4 _ _ (Same.new m3 _ _ (Same.new m2 _ _ upd_same))
        · exact k _ _ ((s02.trans s3).trans (((((Same.new m1).trans (Same.new m2)).trans (Same.new m3)).trans (Same.new m4)).trans s5)) r
      · have e : ¬ wk z i c d x (t + 1) = wd z y i c (d + t + 1) := fun q => e (decide_eq_true (congrArg V.int q))
        refine ⟨s3, ⟨_, rfl⟩, fun j hj => ?_⟩
        by_cases q : j < t
        · exact no j q
        · rw [show j = t by omega]
          exact e
    · rintro σ H3 ⟨s3, ⟨v, rfl⟩, no⟩
      have no : ∀ j, j < 15 - d → wk z i c d x (j + 1) ≠ wd z y i c (d + j + 1) := no
      have em : meet z y i c d x = .non := by
        unfold meet
        rw [e15, Int.toNat_natCast, find_none fun j hj => decide_eq_false (no j hj)]
      rw [em] at k
      exact k _ _ (s02.trans s3) rfl
end
end K11
namespace K11
open PySem L2
theorem valV_sd (i : Int) : ∀ sd : List (Int × Int), valV (sd.map fun e => ((Sum.inl e.1 : Key), V.int e.2)) (Sum.inl i) = (sd.lookup i).map V.int
  | [] => rfl
  | e :: sd => by
    rw [List.map_cons]
    by_cases h : e.1 = i
    · rw [valV_pos (p := ((Sum.inl e.1 : Key), V.int e.2)) (by rw [h])]
      subst h
      simp [List.lookup]
    · rw [valV_neg (p := ((Sum.inl e.1 : Key), V.int e.2)) (fun q => h (Sum.inl.inj q)), valV_sd i sd]
      have hb : (i == e.1) = false := beq_eq_false_iff_ne.mpr (fun q => h q.symm)
      simp [List.lookup, hb]
theorem rep_flat (n : Nat) (v : V) : (List.replicate n [v]).flatten = List.replicate n v := by
  induction n with
  | zero => rfl
  | succ n ih => rw [List.replicate_succ, List.flatten_cons, ih]; rfl
theorem given_rep {n : Nat} : List.replicate n (V.int 16) = ((List.range n).map fun _ => (16 : Int)).map V.int := by
  induction n with
  | zero => rfl
  | succ n ih => rw [List.replicate_succ', ih, List.range_succ, List.map_append, List.map_append]; rfl
section
variable {P : Program} {w : World} {K : PySem.W.Frag} {mg : Str → Option Value} {base : Heap} {CH CS : Addr} {f : Addr} {fd : FuncData}
abbrev s_chain_break : Stmt := top 31
theorem sc_chain_break : FnScope ["signer", "signed", "message", "signature", "index", "digits", "chain", "given"] ["signer", "signed", "message", "signature"] (defScope s_chain_break) := ⟨rfl, rfl, rfl, by decide +kernel, rfl, by decide +kernel, by decide +kernel⟩
theorem ok_chain_break (F : Fun K "chain_break" "chain_break" s_chain_break f fd) (T : Tx K mg CH CS) (c_digits_of : C8.Cal P w K mg base 2 "digits_of" spDigits []) (m_Signer_word : C8.Met P w K mg base 1 CS "word" (spWord CH CS) [])
    (c_merged : C8.Cal P w K mg base 4 "merged" (spMerged CH CS) []) : FnOk P w K mg base CX0 5 f fd ["signer", "signed", "message", "signature"] (spChainBreak CH CS) := by
  refine F.ok sc_chain_break (fun vs H Q E h => ?_) (fun cdv A outer s H vs Q E hr h => ?_)
  · obtain ⟨p, d, g, z, y, m, L, sd, sg, rfl, _⟩ := h
    rfl
  · obtain ⟨p, d, g, z, y, m, L, sd, sg, rfl, S, hz, hL, hd, hG, sh, hi, k⟩ := h
    have hG : H g = some (.tup (sg.map V.int)) := hG
    have hd : H d = some (.dK (sd.map fun e => (Sum.inl e.1, V.int e.2))) := hd
    obtain ⟨len, hL6, i0, i1, hw⟩ := shape_len sh
    obtain ⟨dx, fs, h, vw, vr, hP, hF, ⟨dxh, hH⟩, lw, kw, lr, kr, lp⟩ := S.ex
    have n26 := hz.nch
    have pre : PreW CH CS H p z y L := ⟨dx, fs, h, vw, hP, hF, ⟨dxh, hH⟩, hz, lw, kw⟩
    obtain ⟨i, ei⟩ := Int.eq_ofNat_of_zero_le i0
    have hiL : i < 2 ^ L := by
      rw [ei, ← PySem.W.kbt_cast] at hi
      omega
    have at_ : ∀ {j : Nat}, j < sg.length → (sg.map V.int)[j]? = some (.int (sx sg j)) := fun {j} hj => by
      rw [List.getElem?_map, sx_at hj]
      rfl
    have at0 : (sg.map V.int)[0]? = some (.int (i : Int)) := by
      rw [at_ (by omega), ei]
    obtain ⟨t, et⟩ : ∃ t : Nat → Nat, ∀ j, dgt z m j = (t j : Int) := ⟨fun j => (dgt z m j).toNat, fun j => (Int.toNat_of_nonneg (dgt_le (w := z) (m := m) j).1).symm⟩
    have t15 : ∀ j, t j ≤ 15 := fun j => by have := dgt_le (w := z) (m := m) j; have := et j; omega
    have hgd : ∀ {j : Nat}, j < nch z → ((digits z m).map V.int)[j]? = some (.int (t j : Int)) := fun {j} hj => by
      rw [List.getElem?_map, dgt_mem hj, ← et]
      rfl
    have xn : ∀ j, Nn (sx sg (1 + j)) := fun j => by
      rw [Nat.add_comm 1 j]
      have := sx_word hw hz j
      exact .of this.1 (by omega)
    refine ⟨_, (pss_cons (ps_set (i := 4) sc_chain_break.nd rfl (Or.inl rfl) (pe_ix ix_tup (pv 3) pe_int (fun _ _ => rfl)))
        (pss_cons (ps_set (i := 5) sc_chain_break.nd rfl (Or.inl rfl) (C8.pe_c c_digits_of hr (by decide) rfl (pa_cons (pe_fld (pe_fld (pv 0) rfl) rfl) (pa_cons (pv 2) pa_nil))))
        (pss_cons (ps_for PassesOwn.never rfl (pi_range1 rfl T.range (pa_cons (pe_callB call_len_seq (by rfl) T.len PySem.boot_len (pa_cons (pv 5) pa_nil)) pa_nil)) (pg_name (i := 6) sc_chain_break.nd rfl (by first | exact Or.inl rfl | exact Or.inr rfl))
          (pss_one (ps_if (pt_cmpR op_ne (pe_ix ix_tup (pv 3) (pe_op op_add pe_int (pv 6)) (fun _ _ => rfl)) (C8.pe_mt m_Signer_word hr (by decide) (pv 0) (pa_cons (pv 4) (pa_cons (pv 6) (pa_cons (pe_ix ix_list (pv 5) (pv 6) (fun _ _ => rfl)) pa_nil)))) (nomark _)) (pss_one (ps_ret (C8.pe_c c_merged hr (by decide) rfl (pa_cons (pv 0) (pa_cons (pv 4) (pa_cons (pv 6) (pa_cons (pe_ix ix_list (pv 5) (pv 6) (fun _ _ => rfl)) (pa_cons (pe_ix ix_tup (pv 3) (pe_op op_add pe_int (pv 6)) (fun _ _ => rfl)) pa_nil)))))))) pss_nil)))
        (pss_cons (ps_set (i := 7) sc_chain_break.nd rfl (Or.inl rfl) (pe_op op_rep (pe_lst (pa_cons (C8.pe_gc rfl T.gBASE) pa_nil)) (pe_callB call_len_seq (by rfl) T.len PySem.boot_len (pa_cons (pv 5) pa_nil))))
        (pss_cons (ps_if (pt_cmp (pc_din (hu_of hr) (pv 4) (pv 1))) (pss_one (ps_set (i := 7) sc_chain_break.nd rfl (Or.inl rfl) (C8.pe_c c_digits_of hr (by decide) rfl (pa_cons (pe_fld (pe_fld (pv 0) rfl) rfl) (pa_cons (pe_dget (hu_of hr) (pv 1) (pv 4) (fun _ _ => rfl)) pa_nil))))) pss_nil)
        (pss_cons (ps_for PassesOwn.never rfl (pi_range1 rfl T.range (pa_cons (pe_callB call_len_seq (by rfl) T.len PySem.boot_len (pa_cons (pv 5) pa_nil)) pa_nil)) (pg_name (i := 6) sc_chain_break.nd rfl (by first | exact Or.inl rfl | exact Or.inr rfl))
          (pss_one (ps_if (pt_cmpR op_lt (pe_ix ix_list (pv 5) (pv 6) (fun _ _ => rfl)) (pe_ix ix_list (pv 7) (pv 6) (fun _ _ => rfl)) (nomark _)) (pss_one (ps_ret (pe_tup (pa_cons pe_str (pa_cons (pv 4) (pa_cons (pv 6) (pa_cons (pe_ix ix_list (pv 5) (pv 6) (fun _ _ => rfl)) (pa_cons (pe_ix ix_tup (pv 3) (pe_op op_add pe_int (pv 6)) (fun _ _ => rfl)) pa_nil)))))))) pss_nil)))
        (pss_one (ps_ret pe_non)))))))), ?_⟩
    refine ⟨_, rfl, g, _, ((0 : Nat) : Int), _, rfl, rfl, SqT.of hG, atI_nat at0, ?_⟩
    refine ⟨_, rfl, p, CS, dx, fs, _, rfl, hP, T.cS, T.nS1, hF.hasher, h, CH, dxh, _, _, rfl, hH, T.cH, T.nH, rfl, _, rfl, z, m, rfl, hz, fun H1 q s1 n1 h1 => ?_⟩
    have ec1 : ∀ c : Nat, (1 : Int) + (c : Int) = ((1 + c : Nat) : Int) := fun c => by omega
    refine ⟨_, rfl, q, _, rfl, .inl (SqL.of h1), (nch z : Int), by rw [List.length_map, digits_len], (n62 (by omega)).1, (n62 (by omega)).2, ?_⟩
    refine for_it (walk_rng (n := ((nch z : Nat) : Int).toNat)) (fun c σ H' => Same H1 H' ∧ (∃ v v', σ = [some (.ref p), some (.ref d), some (.int m), some (.ref g), some (.int i), some (.ref q), v, v']) ∧ ∀ j, j < c → sx sg (1 + j) = wd z y i j (t j))
      ⟨Same.refl _, ⟨none, none, rfl⟩, fun j hj => by omega⟩ tr3 ?_ ?_
    · rintro c x σ H2 H3 hc ⟨s2, ⟨v, v', rfl⟩, all⟩ ⟨rfl, rfl⟩
      have hc : c < nch z := hc
      have s02 := s1.trans s2
      have hG2 := s02 _ _ hG
      have h12 := s2 _ _ h1
      refine ⟨_, rfl, _, rfl, _, _, rfl, rfl, g, _, ((1 + c : Nat) : Int), _, rfl, congrArg V.int (ec1 c), SqT.of hG2, atI_nat (at_ (by omega)), ?_⟩
      refine ⟨_, rfl, p, dx, fs, rfl, s02 _ _ hP, hF.m3, _, rfl, _, rfl, _, rfl, _, rfl, q, _, ((c : Nat) : Int), _, rfl, rfl, SqL.of h12, atI_nat (hgd hc), p, z, y, L, i, c, t c, rfl, pre.mono s02, hiL, hc, by have := t15 c; omega, rfl, _, rfl, ite2 (fun e => ?_) (fun e => ?_)⟩
      · have e : sx sg (1 + c) ≠ wd z y i c (t c) := fun q => by
          have e : (!decide (V.int (sx sg (1 + c)) = V.int (wd z y i c (t c)))) = true := e
          rw [decide_eq_true (congrArg V.int q)] at e
          cases e
        have ec : chb z y sd m sg = meet z y i c (t c : Int) (sx sg (1 + c)) := by
          unfold chb
          rw [find_some hc (decide_eq_true (by rw [ei, et]; exact e)) fun j hj => decide_eq_false (by rw [ei, et]; exact fun q => q (all j hj))]
          show meet z y (sx sg 0) c (dgt z m c) (sx sg (1 + c)) = _
          rw [ei, et]
        rw [ec] at k
        refine ⟨_, rfl, _, rfl, _, rfl, _, rfl, _, rfl, q, _, ((c : Nat) : Int), _, rfl, rfl, SqL.of h12, atI_nat (hgd hc), _, rfl, _, rfl, _, _, rfl, rfl, g, _, ((1 + c : Nat) : Int), _, rfl, congrArg V.int (ec1 c), SqT.of hG2, atI_nat (at_ (by omega)), ?_⟩
        exact ⟨p, z, y, t c, sx sg (1 + c), L, i, c, rfl, S.mono s02, hz, hL, hiL, hc, Int.natCast_nonneg _, by have := t15 c; omega, xn c, fun H5 v s5 r => k _ _ (s02.trans s5) r⟩
      · have e : sx sg (1 + c) = wd z y i c (t c) := by
          have e : ¬ (!decide (V.int (sx sg (1 + c)) = V.int (wd z y i c (t c)))) = true := e
          exact V.int.inj (by simpa using e)
        refine ⟨s2, ⟨_, _, rfl⟩, fun j hj => ?_⟩
        by_cases q : j < c
        · exact all j q
        · rw [show j = c by omega]
          exact e
    · rintro σ H2 ⟨s2, ⟨v, v', rfl⟩, all⟩
      have all : ∀ j, j < nch z → sx sg (1 + j) = wd z y i j (t j) := all
      have ec : chb z y sd m sg = match (List.range (nch z)).find? (fun (c : Nat) => decide (dgt z m c < given z sd (sx sg 0) c)) with
          | some c => Ans.found (sx sg 0) c (dgt z m c) (sx sg (1 + c))
          | none => .non := by
        unfold chb
        rw [find_none fun j hj => decide_eq_false (by rw [ei, et]; exact fun q => q (all j hj))]
        try rfl
      have s02 := s1.trans s2
      have h12 := s2 _ _ h1
      have el : ((((digits z m).map V.int).length : Nat) : Int) = (nch z : Int) := by rw [List.length_map, digits_len]
      have n6 : (nch z : Int).toNat = nch z := rfl
      refine ⟨by show 1 ≤ sizeLine; decide, fun p1 n1' => ?_⟩
      refine ⟨_, rfl, q, _, rfl, .inl (SqL.of (Same.new n1' _ _ h12)), p1, (nch z : Int), _, rfl, congrArg V.int el, upd_same, by have := (n62 (n := nch z) (by omega)).1; omega, by have := (n62 (n := nch z) (by omega)).2; omega, sz1 (by simp; omega), fun p2 n2' => ?_⟩
      rw [n6, rep_flat, given_rep]
      obtain ⟨H3, e3⟩ : ∃ H3, H3 = upd (upd H2 p1 (.lst [.int 16])) p2 (.lst (((List.range (nch z)).map fun _ => (16 : Int)).map V.int)) := ⟨_, rfl⟩
      have s23 : Same H2 H3 := by rw [e3]; exact (Same.new n1').trans (Same.new n2')
      have h3 : H3 p2 = some (.lst (((List.range (nch z)).map fun _ => (16 : Int)).map V.int)) := by rw [e3]; exact upd_same
      rw [← e3]
      clear e3 n1' n2'
      have s03 := s02.trans s23
      refine ⟨_, rfl, _, rfl, d, _, rfl, DGet.k (k := Sum.inl (i : Int)) (s03 _ _ hd), _, rfl, ?_⟩
      rw [valV_sd]
      cases hl : sd.lookup (i : Int) with
      | none =>
        have gv : ∀ c, given z sd (sx sg 0) c = 16 := fun c => by
          unfold given
          rw [ei, hl]
        refine iteF ?_
        refine ⟨_, rfl, q, _, rfl, .inl (SqL.of (s23 _ _ h12)), (nch z : Int), by rw [el], (n62 (by omega)).1, (n62 (by omega)).2, ?_⟩
        refine for_it (walk_rng (n := ((nch z : Nat) : Int).toNat)) (fun c σ H' => Same H3 H' ∧ (∃ v, σ = [some (.ref p), some (.ref d), some (.int m), some (.ref g), some (.int i), some (.ref q), v, some (.ref p2)]) ∧ ∀ j, j < c → ¬ dgt z m j < given z sd (sx sg 0) j)
          ⟨Same.refl _, ⟨_, rfl⟩, fun j hj => by omega⟩ tr3 ?_ ?_
        · rintro c x σ H5 H6 hc ⟨s5, ⟨v, rfl⟩, no⟩ ⟨rfl, rfl⟩
          have hc : c < nch z := hc
          have s05 := s03.trans s5
          have q5 := s5 _ _ (s23 _ _ h12)
          have hgv : (((List.range (nch z)).map fun _ => (16 : Int)).map V.int)[c]? = some (.int (given z sd (sx sg 0) c)) := by
            rw [gv, List.getElem?_map, rng_at hc]
            rfl
          refine ⟨_, rfl, _, rfl, q, _, ((c : Nat) : Int), _, rfl, rfl, SqL.of q5, atI_nat (hgd hc), _, rfl, _, rfl, p2, _, ((c : Nat) : Int), _, rfl, rfl, SqL.of (s5 _ _ h3), atI_nat hgv, _, _, rfl, rfl, _, rfl, ite2 (fun e => ?_) (fun e => ?_)⟩
          · have e : (t c : Int) < given z sd (sx sg 0) c := of_decide_eq_true e
            have ec2 : chb z y sd m sg = .found (i : Int) c (t c : Int) (sx sg (1 + c)) := by
              rw [ec, find_some hc (decide_eq_true (by rw [et]; exact e)) fun j hj => decide_eq_false (no j hj)]
              show Ans.found (sx sg 0) c (dgt z m c) (sx sg (1 + c)) = _
              rw [ei, et]
            rw [ec2] at k
            refine ⟨_, rfl, _, rfl, _, rfl, _, rfl, q, _, ((c : Nat) : Int), _, rfl, rfl, SqL.of q5, atI_nat (hgd hc), _, rfl, _, rfl, _, _, rfl, rfl, g, _, ((1 + c : Nat) : Int), _, rfl, congrArg V.int (ec1 c), SqT.of (s05 _ _ hG), atI_nat (at_ (by omega)), by show 5 ≤ sizeLine; decide, fun u nu => ?_⟩
            exact k _ _ (s05.trans (Same.new nu)) ⟨u, rfl, upd_same⟩
          · have e : ¬ dgt z m c < given z sd (sx sg 0) c := fun q => e (decide_eq_true (by rw [et] at q; exact q))
            refine ⟨s5, ⟨_, rfl⟩, fun j hj => ?_⟩
            by_cases q : j < c
            · exact no j q
            · rw [show j = c by omega]
              exact e
        · rintro σ H5 ⟨s5, ⟨v, rfl⟩, no⟩
          have no : ∀ j, j < nch z → ¬ dgt z m j < given z sd (sx sg 0) j := no
          have ec2 : chb z y sd m sg = .non := by
            rw [ec, find_none fun j hj => decide_eq_false (no j hj)]
          rw [ec2] at k
          exact k _ _ (s03.trans s5) rfl
      | some m' =>
        have gv : ∀ c, given z sd (sx sg 0) c = dgt z m' c := fun c => by
          unfold given
          rw [ei, hl]
        refine iteT ?_
        refine ⟨_, rfl, p, CS, dx, fs, _, rfl, s03 _ _ hP, T.cS, T.nS1, hF.hasher, h, CH, dxh, _, _, rfl, s03 _ _ hH, T.cH, T.nH, rfl, _, rfl, _, rfl, d, .int m', rfl, ?_, z, m', rfl, hz, fun H4 p4 s4 n4 h4 => ?_⟩
        · have := DGet.k (k := Sum.inl (i : Int)) (s03 _ _ hd)
          rw [valV_sd, hl] at this
          exact this
        refine ⟨_, rfl, q, _, rfl, .inl (SqL.of (s4 _ _ (s23 _ _ h12))), (nch z : Int), by rw [el], (n62 (by omega)).1, (n62 (by omega)).2, ?_⟩
        refine for_it (walk_rng (n := ((nch z : Nat) : Int).toNat)) (fun c σ H' => Same H4 H' ∧ (∃ v, σ = [some (.ref p), some (.ref d), some (.int m), some (.ref g), some (.int i), some (.ref q), v, some (.ref p4)]) ∧ ∀ j, j < c → ¬ dgt z m j < given z sd (sx sg 0) j)
          ⟨Same.refl _, ⟨_, rfl⟩, fun j hj => by omega⟩ tr3 ?_ ?_
        · rintro c x σ H5 H6 hc ⟨s5, ⟨v, rfl⟩, no⟩ ⟨rfl, rfl⟩
          have hc : c < nch z := hc
          have s05 := (s03.trans s4).trans s5
          have q5 := s5 _ _ (s4 _ _ (s23 _ _ h12))
          have hgv : ((digits z m').map V.int)[c]? = some (.int (given z sd (sx sg 0) c)) := by
            rw [gv, List.getElem?_map, dgt_mem hc]
            rfl
          refine ⟨_, rfl, _, rfl, q, _, ((c : Nat) : Int), _, rfl, rfl, SqL.of q5, atI_nat (hgd hc), _, rfl, _, rfl, p4, _, ((c : Nat) : Int), _, rfl, rfl, SqL.of (s5 _ _ h4), atI_nat hgv, _, _, rfl, rfl, _, rfl, ite2 (fun e => ?_) (fun e => ?_)⟩
          · have e : (t c : Int) < given z sd (sx sg 0) c := of_decide_eq_true e
            have ec2 : chb z y sd m sg = .found (i : Int) c (t c : Int) (sx sg (1 + c)) := by
              rw [ec, find_some hc (decide_eq_true (by rw [et]; exact e)) fun j hj => decide_eq_false (no j hj)]
              show Ans.found (sx sg 0) c (dgt z m c) (sx sg (1 + c)) = _
              rw [ei, et]
            rw [ec2] at k
            refine ⟨_, rfl, _, rfl, _, rfl, _, rfl, q, _, ((c : Nat) : Int), _, rfl, rfl, SqL.of q5, atI_nat (hgd hc), _, rfl, _, rfl, _, _, rfl, rfl, g, _, ((1 + c : Nat) : Int), _, rfl, congrArg V.int (ec1 c), SqT.of (s05 _ _ hG), atI_nat (at_ (by omega)), by show 5 ≤ sizeLine; decide, fun u nu => ?_⟩
            exact k _ _ (s05.trans (Same.new nu)) ⟨u, rfl, upd_same⟩
          · have e : ¬ dgt z m c < given z sd (sx sg 0) c := fun q => e (decide_eq_true (by rw [et] at q; exact q))
            refine ⟨s5, ⟨_, rfl⟩, fun j hj => ?_⟩
            by_cases q : j < c
            · exact no j q
            · rw [show j = c by omega]
              exact e
        · rintro σ H5 ⟨s5, ⟨v, rfl⟩, no⟩
          have no : ∀ j, j < nch z → ¬ dgt z m j < given z sd (sx sg 0) j := no
          have ec2 : chb z y sd m sg = .non := by
            rw [ec, find_none fun j hj => decide_eq_false (no j hj)]
          rw [ec2] at k
          exact k _ _ ((s03.trans s4).trans s5) rfl
end
end K11
namespace K11
open PySem L2
theorem cl_ints : ∀ ns : List Int, PyData.canLayAll0 (ns.map .int) = true
  | [] => by (simp [PyData.canLayAll0])
  | n :: ns => by simp [PyData.canLayAll0, PyData.canLay0, cl_ints ns]
theorem dp_ints0 : ∀ ns : List Int, PyData.depthAll (ns.map .int) = 0
  | [] => by (simp [PyData.depthAll])
  | n :: ns => by simp [PyData.depthAll, PyData.depth, dp_ints0 ns]
theorem cl_in (x : Int × List Int) : PyData.canLay0 (dIn x) = true := by
  simp [dIn, PyData.canLay0, PyData.canLayAll0, cl_ints]
theorem dp_in (x : Int × List Int) : PyData.depth (dIn x) = 2 := by
  simp [dIn, PyData.depth, PyData.depthAll, dp_ints0]
theorem sh_in (x : Int × List Int) : SeqAt.shaped (dIn x) = true := by
  simp [SeqAt.shaped, cl_in, dp_in]
theorem sh_ans (x : Ans) : SeqAt.shaped (dAns x) = true := by
  have e1 : PyData.strOk "collision" = true := by decide +kernel
  have e2 : PyData.strOk "found" = true := by decide +kernel
  cases x with
  | non => simp [SeqAt.shaped, dAns, PyData.canLay0, PyData.depth]
  | coll a b => simp [SeqAt.shaped, dAns, PyData.canLay0, PyData.canLayAll0, PyData.depth, PyData.depthAll, cl_in, dp_in, e1]
  | found i k d y => simp [SeqAt.shaped, dAns, PyData.canLay0, PyData.canLayAll0, PyData.depth, PyData.depthAll, e2]
theorem eq_ints : ∀ ns ms : List Int, PyData.eqvAll (ns.map .int) (ms.map .int) = decide (ns = ms)
  | [], [] => by (simp [PyData.eqvAll])
  | [], m :: ms => by simp [PyData.eqvAll]
  | n :: ns, [] => by simp [PyData.eqvAll]
  | n :: ns, m :: ms => by
    by_cases h : n = m
    · simp [PyData.eqvAll, PyData.eqv, eq_ints ns ms, h]
    · simp [PyData.eqvAll, PyData.eqv, eq_ints ns ms, h]
theorem eq_in (a b : Int × List Int) : PyData.eqv (dIn a) (dIn b) = decide (a = b) := by
  obtain ⟨a1, a2⟩ := a
  obtain ⟨b1, b2⟩ := b
  by_cases h : a1 = b1
  · simp [dIn, PyData.eqv, PyData.eqvAll, eq_ints, h]
  · simp [dIn, PyData.eqv, PyData.eqvAll, eq_ints, h]
theorem eq_same (x : Ans) : PyData.eqv (dAns x) (dAns x) = true := by
  cases x with
  | non => simp [dAns, PyData.eqv]
  | coll a b => simp [dAns, PyData.eqv, PyData.eqvAll, eq_in]
  | found i k d y => simp [dAns, PyData.eqv, PyData.eqvAll]
section
variable {P : Program} {w : World} {K : PySem.W.Frag} {mg : Str → Option Value} {base : Heap} {CH CS : Addr} {f : Addr} {fd : FuncData}
theorem mn_nat {sg : List Int} {L : Nat} (h : 0 ≤ sx sg 0) : ∃ i : Nat, mn sg L = (i : Int) ∧ i < 2 ^ L := by
  have hp := Nat.pow_pos (n := L) (show 0 < 2 by decide)
  have hc := PySem.W.kbt_cast L
  unfold mn
  split
  · exact ⟨2 ^ L - 1, by omega, by omega⟩
  · exact ⟨(sx sg 0).toNat, by omega, by omega⟩
abbrev s_is_collision : Stmt := top 13
theorem sc_is_collision : FnScope ["hasher", "answer", "first", "second"] ["hasher", "answer"] (defScope s_is_collision) := ⟨rfl, rfl, rfl, by decide +kernel, rfl, by decide +kernel, by decide +kernel⟩
theorem ok_is_collision (F : Fun K "is_collision" "is_collision" s_is_collision f fd) (c_is_input : C8.Cal P w K mg base 1 "is_input" spIsInput []) (m_Hasher_digest : C8.Met P w K mg base 2 CH "digest" (spDigest K CH) []) :
    FnOk P w K mg base CX0 3 f fd ["hasher", "answer"] (spIsColl CH) := by
  refine F.ok sc_is_collision (fun vs H Q E h => ?_) (fun cdv A outer s H vs Q E hr h => ?_)
  · obtain ⟨h, z, v, a, b, rfl, _⟩ := h
    rfl
  · obtain ⟨h, z, v, a, b, rfl, ⟨dx, hH⟩, hz, ⟨p, va, vb, rfl, hp, ra, rb⟩, ⟨ed, ne, ia, ib⟩, k⟩ := h
    refine ⟨_, (pss_cons (ps_if (PW.pt (pw_or (pt_cmp (pc_isN (pv 1))) (pw_or1 (pt_cmpR op_ne (pe_ix ix_tup (pv 1) pe_int (fun _ _ => rfl)) pe_str (nomark _))))) (pss_one (ps_ret pe_bl)) pss_nil)
        (pss_cons (ps_asg (pe_slice sl_tup (pv 1) (po_some pe_int) po_none) (pg_tup rfl (pgs_cons (pg_name (i := 2) sc_is_collision.nd rfl (by first | exact Or.inl rfl | exact Or.inr rfl)) (pgs_cons (pg_name (i := 3) sc_is_collision.nd rfl (by first | exact Or.inl rfl | exact Or.inr rfl)) pgs_nil))))
        (pss_cons (ps_if (PW.pt (pw_or (pt_not (pt_val (C8.pe_c c_is_input hr (by decide) rfl (pa_cons (pv 2) pa_nil)))) (pw_or (pt_not (pt_val (C8.pe_c c_is_input hr (by decide) rfl (pa_cons (pv 3) pa_nil)))) (pw_or1 (pt_cmpR (op_eqD hr.units) (pv 2) (pv 3) (nomark _)))))) (pss_one (ps_ret pe_bl)) pss_nil)
        (pss_one (ps_ret (pe_cmpR op_eq (C8.pe_mt m_Hasher_digest hr (by decide) (pv 0) (pa_cons (pe_ix ix_tup (pv 2) pe_int (fun _ _ => rfl)) (pa_cons (pe_ix ix_tup (pv 2) pe_int (fun _ _ => rfl)) pa_nil))) (C8.pe_mt m_Hasher_digest hr (by decide) (pv 0) (pa_cons (pe_ix ix_tup (pv 3) pe_int (fun _ _ => rfl)) (pa_cons (pe_ix ix_tup (pv 3) pe_int (fun _ _ => rfl)) pa_nil))) (nomark _))))))), ?_⟩
    have ecut : cutV [V.str "collision", va, vb] (some (1 : Int)) none = [va, vb] := (cut_tail (xs := [V.str "collision", va, vb]) (a := 1) (by show 1 ≤ 3; decide)).trans rfl
    refine ⟨_, rfl, _, rfl, iteF ?_⟩
    refine ⟨_, rfl, p, _, ((0 : Nat) : Int), _, rfl, rfl, SqT.of hp, atI_nat rfl, rfl, _, rfl, ?_⟩
    rw [decide_eq_true (show V.str "collision" = V.str "collision" from rfl)]
    refine iteF ?_
    refine ⟨_, rfl, _, rfl, p, _, rfl, SqT.of hp, cut_ne (a := 1) (by decide) (by show 0 < 3; decide), fun q nq => ?_⟩
    rw [ecut]
    have s1 := Same.new (o := HO.tup [va, vb]) nq
    have ra1 := in1_mono s1 ra
    have rb1 := in1_mono s1 rb
    refine ⟨q, _, rfl, SqT.of upd_same, rfl, _, _, rfl, _, _, rfl, rfl, ?_⟩
    refine ⟨_, rfl, va, a, rfl, ra1, ia, fun H2 s2 => ⟨_, rfl, iteF ?_⟩⟩
    refine ⟨_, rfl, vb, b, rfl, in1_mono s2 rb1, ib, fun H3 s3 => ⟨_, rfl, iteF ?_⟩⟩
    have ra3 := in1_mono s3 (in1_mono s2 ra1)
    have rb3 := in1_mono s3 (in1_mono s2 rb1)
    refine ⟨_, rfl, _, rfl, dIn a, dIn b, ra3.dp, rb3.dp, sh_in _, sh_in _, _, rfl, ?_⟩
    rw [eq_in, decide_eq_false ne]
    refine iteF ?_
    obtain ⟨pa, qa, rfl, ha1, ha2⟩ := ra3
    obtain ⟨pb, qb, rfl, hb1, hb2⟩ := rb3
    have hH3 := s3 _ _ (s2 _ _ (s1 _ _ hH))
    refine ⟨_, rfl, h, dx, _, rfl, hH3, rfl, _, rfl, pa, _, ((0 : Nat) : Int), _, rfl, rfl, SqT.of ha1, atI_nat rfl, _, rfl, pa, _, ((1 : Nat) : Int), _, rfl, rfl, SqT.of ha1, atI_nat rfl, h, qa, z, _, _, rfl, ⟨dx, hH3⟩, hz, .inr (SqT.of ha2), ia.sm, fun H4 s4 => ?_⟩
    have hH4 := s4 _ _ hH3
    have hb14 := s4 _ _ hb1
    refine ⟨_, rfl, h, dx, _, rfl, hH4, rfl, _, rfl, pb, _, ((0 : Nat) : Int), _, rfl, rfl, SqT.of hb14, atI_nat rfl, _, rfl, pb, _, ((1 : Nat) : Int), _, rfl, rfl, SqT.of hb14, atI_nat rfl, h, qb, z, _, _, rfl, ⟨dx, hH4⟩, hz, .inr (SqT.of (s4 _ _ hb2)), ib.sm, fun H5 s5 => ?_⟩
    refine ⟨rfl, ?_⟩
    have e : decide (V.int (dig z a.1 a.2) = V.int (dig z b.1 b.2)) = true := decide_eq_true (congrArg V.int ed)
    show Q (V.bl (decide (V.int (dig z a.1 a.2) = V.int (dig z b.1 b.2)))) _
    rw [e]
    exact k _ ((((s1.trans s2).trans s3).trans s4).trans s5)
abbrev s_signing_break : Stmt := top 32
theorem sc_signing_break : FnScope ["signer", "signed", "message", "signature", "hasher", "told", "true", "k"] ["signer", "signed", "message", "signature"] (defScope s_signing_break) := ⟨rfl, rfl, rfl, by decide +kernel, rfl, by decide +kernel, by decide +kernel⟩
theorem ok_signing_break (F : Fun K "signing_break" "signing_break" s_signing_break f fd) (T : Tx K mg CH CS) (c_verify : C8.Cal P w K mg base 5 "verify" (spVerify CH) []) (c_inputs_of : C8.Cal P w K mg base 4 "inputs_of" (spInputs CH) [])
    (c_true_inputs : C8.Cal P w K mg base 4 "true_inputs" (spTrue CH CS) []) (c_collision : C8.Cal P w K mg base 1 "collision" spColl []) (c_chain_break : C8.Cal P w K mg base 5 "chain_break" (spChainBreak CH CS) []) :
    FnOk P w K mg base CX0 6 f fd ["signer", "signed", "message", "signature"] (spBreak CH CS) := by
  refine F.ok sc_signing_break (fun vs H Q E h => ?_) (fun cdv A outer s H vs Q E hr h => ?_)
  · obtain ⟨p, d, g, z, y, m, L, sd, sg, rfl, _⟩ := h
    rfl
  · obtain ⟨p, d, g, z, y, m, L, sd, sg, rfl, S, hz, hy, hL, hd, hG', h2, h100, k⟩ := h
    have hG : H g = some (.tup (sg.map V.int)) := hG'
    obtain ⟨dx, fs, h, vw, vr, hP, hF, ⟨dxh, hH⟩, lw, kw, lr, kr, lp⟩ := S.ex
    refine ⟨_, (pss_cons (ps_set (i := 4) sc_signing_break.nd rfl (Or.inl rfl) (pe_fld (pv 0) rfl))
        (pss_cons (ps_if (pt_not (pt_val (C8.pe_c c_verify hr (by decide) rfl (pa_cons (pv 4) (pa_cons (pe_fld (pv 0) rfl) (pa_cons (pv 2) (pa_cons (pv 3) pa_nil))))))) (pss_one (ps_ret pe_non)) pss_nil)
        (pss_cons (ps_set (i := 5) sc_signing_break.nd rfl (Or.inl rfl) (pe_revL (C8.pe_c c_inputs_of hr (by decide) rfl (pa_cons (pv 4) (pa_cons (pv 2) (pa_cons (pv 3) pa_nil))))))
        (pss_cons (ps_set (i := 6) sc_signing_break.nd rfl (Or.inl rfl) (pe_revL (C8.pe_c c_true_inputs hr (by decide) rfl (pa_cons (pv 0) (pa_cons (pe_callB (call_min2 rfl) (by rfl) T.min (by decide +kernel) (pa_cons (pe_ix ix_tup (pv 3) pe_int (fun _ _ => rfl)) (pa_cons (pe_op op_sub (pe_op op_shl pe_int (pe_fld (pv 0) rfl)) pe_int) pa_nil))) pa_nil)))))
        (pss_cons (ps_for PassesOwn.never rfl (pi_range1 rfl T.range (pa_cons (pe_callB (call_min2 rfl) (by rfl) T.min (by decide +kernel) (pa_cons (pe_callB call_len_seq (by rfl) T.len PySem.boot_len (pa_cons (pv 5) pa_nil)) (pa_cons (pe_callB call_len_seq (by rfl) T.len PySem.boot_len (pa_cons (pv 6) pa_nil)) pa_nil))) pa_nil)) (pg_name (i := 7) sc_signing_break.nd rfl (by first | exact Or.inl rfl | exact Or.inr rfl))
          (pss_one (ps_if (pt_cmpR (op_neD hr.units) (pe_ix ix_list (pv 5) (pv 7) (fun _ _ => rfl)) (pe_ix ix_list (pv 6) (pv 7) (fun _ _ => rfl)) (nomark _)) (pss_one (ps_ret (C8.pe_c c_collision hr (by decide) rfl (pa_cons (pe_ix ix_list (pv 6) (pv 7) (fun _ _ => rfl)) (pa_cons (pe_ix ix_list (pv 5) (pv 7) (fun _ _ => rfl)) pa_nil))))) pss_nil)))
        (pss_one (ps_ret (C8.pe_c c_chain_break hr (by decide) rfl (pa_cons (pv 0) (pa_cons (pv 1) (pa_cons (pv 2) (pa_cons (pv 3) pa_nil)))))))))))), ?_⟩
    refine ⟨_, rfl, p, CS, dx, fs, _, rfl, hP, T.cS, T.nS1, hF.hasher, ?_⟩
    refine ⟨_, rfl, _, rfl, p, CS, dx, fs, _, rfl, hP, T.cS, T.nS6, lp, _, rfl, _, rfl, h, g, z, m, pub z y L, sg, rfl, ⟨dxh, hH⟩, hz, hG, h2, h100, fun H1 s1 => ⟨_, rfl, ?_⟩⟩
    have ev : (shapeOk z sg && decide (lastD z m sg = pub z y L)) = validB z y L m sg := rfl
    rw [ev]
    cases hv : validB z y L m sg with
    | false =>
      rw [hv] at k
      exact k _ _ s1 rfl
    | true =>
      rw [hv, if_pos rfl] at k
      refine iteF ?_
      have VV := Valid.of hv
      have sh : shapeOk z sg = true := by
        unfold validB at hv
        exact (Bool.and_eq_true_iff.mp hv).1
      obtain ⟨i, ei, hi⟩ := mn_nat (L := L) VV.ix0
      have em : (if 1 * 2 ^ ((L : Nat) : Int).toNat - 1 < sx sg 0 then 1 * 2 ^ ((L : Nat) : Int).toNat - 1 else sx sg 0) = (i : Int) := by
        rw [← ei, mn, Int.one_mul, Int.toNat_natCast]
      have at0 : (sg.map V.int)[0]? = some (.int (sx sg 0)) := by
        rw [List.getElem?_map, sx_at (by omega)]
        rfl
      refine ⟨_, rfl, _, rfl, _, rfl, h, g, z, m, sg, rfl, ⟨dxh, s1 _ _ hH⟩, hz, s1 _ _ hG, sh, fun H2 v s2 r => ?_⟩
      obtain ⟨a, vs, rfl, ha, all⟩ := r
      refine ⟨a, vs, rfl, SqL.of (Nw.to _ _ ha), fun t1 n1 => ?_⟩
      have s02 := s1.trans s2
      have all : All2 (In1 H2) vs.reverse (told z m sg).reverse := (all.mono fun v x q => in1_mono Nw.to q).rev
      obtain ⟨H3, e3⟩ : ∃ H3, H3 = upd H2 t1 (.lst vs.reverse) := ⟨_, rfl⟩
      have s23 : Same H2 H3 := by rw [e3]; exact Same.new n1
      have h3 : H3 t1 = some (.lst vs.reverse) := by rw [e3]; exact upd_same
      rw [← e3]
      clear e3 n1 ha
      have s03 := s02.trans s23
      refine ⟨_, rfl, _, rfl, g, _, ((0 : Nat) : Int), _, rfl, rfl, SqT.of (s03 _ _ hG), atI_nat at0, _, rfl, p, CS, dx, fs, _, rfl, s03 _ _ hP, T.cS, T.nS3, hF.levels, _, _, rfl, rfl, cpow1 (by omega), _, _, rfl, rfl, _, _, rfl, ?_⟩
      refine ⟨p, z, y, L, i, congrArg (fun q => [V.ref p, V.int q]) em, S.mono s03, hz, hy, hL, hi, fun H4 v s4 r => ?_⟩
      obtain ⟨a', ws, rfl, ha', all'⟩ := r
      refine ⟨a', ws, rfl, SqL.of (Nw.to _ _ ha'), fun t2 n2 => ?_⟩
      have all' : All2 (In1 H4) ws.reverse (tru z y L (mn sg L)).reverse := by
        rw [ei]
        exact (all'.mono fun v x q => in1_mono Nw.to q).rev
      obtain ⟨H5, e5⟩ : ∃ H5, H5 = upd H4 t2 (.lst ws.reverse) := ⟨_, rfl⟩
      have s45 : Same H4 H5 := by rw [e5]; exact Same.new n2
      have h52 : H5 t2 = some (.lst ws.reverse) := by rw [e5]; exact upd_same
      rw [← e5]
      clear e5 n2 ha'
      have s35 := s4.trans s45
      have s05 := s03.trans s35
      have all := all.mono fun v x q => in1_mono (s23.trans s35) q
      have all' := all'.mono fun v x q => in1_mono s45 q
      have h51 := s35 _ _ h3
      generalize hA : (told z m sg).reverse = A at *
      generalize hB : (tru z y L (mn sg L)).reverse = B at *
      have lA : A.length = Ls z sg + 2 := by rw [← hA, List.length_reverse, told_len]
      have lB : B.length = L + 2 := by rw [← hB, List.length_reverse, tru_len]
      have l6 := VV.Ls6
      have ej : (if ((ws.reverse.length : Nat) : Int) < ((vs.reverse.length : Nat) : Int) then ((ws.reverse.length : Nat) : Int) else ((vs.reverse.length : Nat) : Int)) = ((min A.length B.length : Nat) : Int) := by
        rw [all.len, all'.len]
        split <;> omega
      refine ⟨_, rfl, t1, _, rfl, .inl (SqL.of h51), _, rfl, t2, _, rfl, .inl (SqL.of h52), _, _, rfl, ((min A.length B.length : Nat) : Int), congrArg (fun q => [V.int q]) ej, (n62 (by omega)).1, (n62 (by omega)).2, ?_⟩
      refine for_it (walk_rng (n := ((min A.length B.length : Nat) : Int).toNat)) (fun t σ H' => Same H5 H' ∧ (∃ v, σ = [some (.ref p), some (.ref d), some (.int m), some (.ref g), some (.ref h), some (.ref t1), some (.ref t2), v]) ∧ ∀ j, j < t → A[j]? = B[j]?)
        ⟨Same.refl _, ⟨none, rfl⟩, fun j hj => by omega⟩ tr3 ?_ ?_
      · rintro t x σ H6 H7 ht ⟨s6, ⟨v, rfl⟩, same⟩ ⟨rfl, rfl⟩
        have ht : t < min A.length B.length := ht
        have eA : A[t]? = some A[t] := List.getElem?_eq_getElem (by omega)
        have eB : B[t]? = some B[t] := List.getElem?_eq_getElem (by omega)
        obtain ⟨v1, hv1, r1⟩ := all.get eA
        obtain ⟨v2, hv2, r2⟩ := all'.get eB
        have r1 := in1_mono s6 r1
        have r2 := in1_mono s6 r2
        have h61 := s6 _ _ h51
        have h62 := s6 _ _ h52
        refine ⟨_, rfl, _, rfl, t1, _, ((t : Nat) : Int), _, rfl, rfl, SqL.of h61, atI_nat hv1, _, rfl, _, rfl, t2, _, ((t : Nat) : Int), _, rfl, rfl, SqL.of h62, atI_nat hv2, dIn A[t], dIn B[t], r1.dp, r2.dp, sh_in _, sh_in _, _, rfl, ?_⟩
        rw [eq_in]
        refine ite2 (fun e => ?_) (fun e => ?_)
        · have e : A[t] ≠ B[t] := fun q => by
            rw [decide_eq_true q] at e
            cases e
          have ed : due z y L sd m sg = .coll B[t] A[t] := by
            unfold due
            rw [hA, hB, firstD_some same eA eB e]
          rw [ed] at k
          refine ⟨_, rfl, _, rfl, t2, _, ((t : Nat) : Int), _, rfl, rfl, SqL.of h62, atI_nat hv2, _, rfl, _, rfl, t1, _, ((t : Nat) : Int), _, rfl, rfl, SqL.of h61, atI_nat hv1, v2, v1, _, _, rfl, r2, r1, fun H8 v s8 r => k _ _ ((s05.trans s6).trans s8) r⟩
        · have e : A[t] = B[t] := by simpa using e
          refine ⟨s6, ⟨_, rfl⟩, fun j hj => ?_⟩
          by_cases q : j < t
          · exact same j q
          · rw [show j = t by omega, eA, eB, e]
      · rintro σ H6 ⟨s6, ⟨v, rfl⟩, same⟩
        have fn : firstD A B = none := firstD_none same
        have ed : due z y L sd m sg = chb z y sd m sg := by
          unfold due
          rw [hA, hB, fn]
        rw [ed] at k
        have fn' : firstD (told z m sg).reverse (tru z y L (mn sg L)).reverse = none := by rw [hA, hB]; exact fn
        obtain ⟨eL, _, _⟩ := same_of hz hL VV fn'
        have i1 := VV.ix1
        rw [eL] at i1
        have s06 := s05.trans s6
        exact ⟨_, rfl, _, rfl, _, rfl, _, rfl, p, d, g, z, y, m, L, sd, sg, rfl, S.mono s06, hz, hL, s06 _ _ hd, s06 _ _ hG, sh, i1, fun H8 v s8 r => k _ _ (s06.trans s8) r⟩
end
end K11
namespace K11
open PySem L2
section
variable {P : Program} {w : World} {K : PySem.W.Frag} {mg : Str → Option Value} {base : Heap} {CH CS : Addr} {f : Addr} {fd : FuncData}
def lcSc : Expr → Scope
  | .ListComp _ _ sc _ => sc
  | _ => { names := [], kind := .function, isCoroutine := false, isGenerator := false }
def retE : Stmt → Expr
  | .Return (some e) _ => e
  | _ => .Constant .none 0 ⟨0, 0, 0, 0⟩
abbrev s_law_keys : Stmt := top 39
theorem sc_law_keys : FnScope ["_law_width", "_law_secret", "_law_levels", "_law_chains", "_law_index", "_law_chain"] ["_law_width", "_law_secret", "_law_levels"] (defScope s_law_keys) := ⟨rfl, rfl, rfl, by decide +kernel, rfl, by decide +kernel, by decide +kernel⟩
abbrev sc_outer : Scope := lcSc (retE ((defBody s_law_keys).getD 1 (.Pass ⟨0, 0, 0, 0⟩)))
theorem ok_law_keys (F : Fun K "_law_keys" "_law_keys" s_law_keys f fd) (T : Tx K mg CH CS) (c_law_digits : C8.Cal P w K mg base 1 "_law_digits" spDigits []) (c_law_words : C8.Cal P w K mg base 3 "_law_words" spLWords []) :
    FnOk P w K mg base CX0 4 f fd ["_law_width", "_law_secret", "_law_levels"] spLKeys := by
  refine F.ok sc_law_keys (fun vs H Q E h => ?_) (fun cdv A outer s H vs Q E hr h => ?_)
  · obtain ⟨z, y, L, rfl, _⟩ := h
    rfl
  · obtain ⟨z, y, L, rfl, hz, hy, hL, k⟩ := h
    have n26 := hz.nch
    have l64 := two_le6 hL
    refine ⟨_, (pss_cons (ps_set (i := 3) sc_law_keys.nd rfl (Or.inr rfl) (pe_callB call_len_seq (by rfl) T.len PySem.boot_len (pa_cons (C8.pe_c c_law_digits hr (by decide) rfl (pa_cons (pv 0) (pa_cons pe_int pa_nil))) pa_nil)))
        (pss_one (ps_ret (pe_lc (own := [("_law_index", 4)]) (g := gName 4) (tt := tYes) rfl sc_law_keys.nd (pi_range1 rfl T.range (pa_cons (pe_op op_shl pe_int (pv 2)) pa_nil)) (blkOk_by (N := ["_law_width", "_law_secret", "_law_levels", "_law_chains", "_law_index", "_law_chain"]) (sc := defScope s_law_keys) (by decide +kernel)) (fun _ _ _ _ _ => (pg_name (i := 4) sc_law_keys.nd rfl (by first | exact Or.inl rfl | exact Or.inr rfl))) (fun _ _ _ _ _ => pts_nil) (fun _ _ _ _ _ => (pe_lc (own := [("_law_chain", 5)]) (g := gName 5) (tt := tYes) rfl sc_law_keys.nd (pi_range1 rfl T.range (pa_cons (pv 3) pa_nil)) (blkOk_by (N := ["_law_width", "_law_secret", "_law_levels", "_law_chains", "_law_index", "_law_chain"]) (sc := relS sc_outer (defScope s_law_keys)) (by decide +kernel)) (fun _ _ _ _ _ => (pg_name (i := 5) sc_law_keys.nd rfl (by first | exact Or.inl rfl | exact Or.inr rfl))) (fun _ _ _ _ _ => pts_nil) (fun _ _ _ _ _ => (C8.pe_c c_law_words hr (by decide) rfl (pa_cons (pv 0) (pa_cons (pv 1) (pa_cons (pv 4) (pa_cons (pv 5) pa_nil)))))))))))), ?_⟩
    refine ⟨_, rfl, z, 0, rfl, hz, fun H1 p1 s1 n1 h1 => ?_⟩
    refine ⟨p1, _, rfl, .inl (SqL.of h1), ?_⟩
    rw [List.length_map, digits_len]
    refine ⟨_, rfl, _, _, rfl, rfl, cpow1 (by omega), ((2 ^ L : Nat) : Int), congrArg (fun i => [V.int i]) (shl1 L), (n62 (by omega)).1, (n62 (by omega)).2, fun D hD => ?_⟩
    refine lc_it (walk_rng (n := ((2 ^ L : Nat) : Int).toNat)) (fun t H' => Same H1 H' ∧ ∃ vs, H' D = some (.lst vs) ∧ All2 (LsR LsI (hide (Nw H1 H') D)) vs ((List.range t).map fun (i : Nat) => keyL z y i))
      ⟨Same.new hD, [], upd_same, All2.nil⟩ tr2 ?_ ?_
    · rintro t x H2 H3 ht ⟨s2, vs, h2, all⟩ ⟨rfl, rfl⟩
      have ht : t < 2 ^ L := ht
      refine ⟨rfl, _, rfl, (nch z : Int), rfl, (n62 (by omega)).1, (n62 (by omega)).2, fun D2 hD2 => ?_⟩
      refine lc_it (walk_rng (n := ((nch z : Nat) : Int).toNat)) (fun c H' => Same H3 H' ∧ ∃ ws, H' D2 = some (.lst ws) ∧ All2 (LsI (hide (Nw H3 H') D2)) ws ((List.range c).map fun (c : Nat) => chainL z y t c))
        ⟨Same.new hD2, [], upd_same, All2.nil⟩ tr2 ?_ ?_
      · rintro c x H4 H5 hc ⟨s4, ws, h4, al⟩ ⟨rfl, rfl⟩
        have hc : c < nch z := hc
        refine ⟨rfl, _, rfl, _, rfl, _, rfl, _, rfl, z, y, t, c, rfl, hz, hy, .of (by omega) (by omega), .of (by omega) (by omega), fun H6 p6 s6 n6 h6 => ?_⟩
        have ne : p6 ≠ D2 := fun e => by rw [e, h4] at n6; cases n6
        refine ⟨ws, s6 _ _ h4, sz2 (by rw [al.len]; simp; omega), Same.put (s4.trans s6) hD2, _, upd_same, ?_⟩
        rw [hide.upd]
        refine All2.next (al.mono fun v x => LsI.mono _ _ _ _ (hide.grow (Nw.grow s6))) ⟨p6, rfl, ?_⟩
        rw [hide.at_ ne, Nw.at_ (s4.free n6)]
        exact h6
      · rintro H4 ⟨s4, ws, h4, al⟩
        refine ⟨vs, s4 _ _ h2, sz2 (by rw [all.len]; simp; omega), Same.put (s2.trans s4) hD, _, upd_same, ?_⟩
        rw [hide.upd]
        refine All2.next (all.mono fun v x => LsR.mono LsI.mono _ _ _ _ (hide.grow (Nw.grow s4))) ?_
        have r : LsR LsI (Nw H3 H4) (.ref D2) (keyL z y t) := ⟨D2, ws, rfl, by rw [Nw.at_ hD2]; exact h4, al.mono fun v x => LsI.mono _ _ _ _ hide.to⟩
        exact LsR.mono LsI.mono _ _ _ _ (Nw.hid s2 h2) r
    · rintro H2 ⟨s2, vs, h2, all⟩
      refine k _ _ (s1.trans s2) ⟨D, vs, rfl, ?_, all.mono fun v x => LsR.mono LsI.mono _ _ _ _ (hide.to.trans (Nw.mono s1))⟩
      rw [Nw.at_ (s1.free hD)]
      exact h2
abbrev s_law_public : Stmt := top 41
theorem sc_law_public : FnScope ["_law_width", "_law_rows_here"] ["_law_width", "_law_rows_here"] (defScope s_law_public) := ⟨rfl, rfl, rfl, by decide +kernel, rfl, by decide +kernel, by decide +kernel⟩
theorem ok_law_public (F : Fun K "_law_public" "_law_public" s_law_public f fd) (T : Tx K mg CH CS) (c_law_digest : C8.Cal P w K mg base 1 "_law_digest" (spLDigest K) []) : FnOk P w K mg base CX0 2 f fd ["_law_width", "_law_rows_here"] spLPublic := by
  refine F.ok sc_law_public (fun vs H Q E h => ?_) (fun cdv A outer s H vs Q E hr h => ?_)
  · obtain ⟨z, y, L, vr, rfl, _⟩ := h
    rfl
  · obtain ⟨z, y, L, vr, rfl, hz, hL, ⟨ar, rs, rfl, har, allr⟩, k⟩ := h
    refine ⟨_, (pss_one (ps_ret (C8.pe_c c_law_digest hr (by decide) rfl (pa_cons (pv 0) (pa_cons pe_int (pa_cons (pe_lst (pa_cons (pe_op op_sub (pe_callB call_len_seq (by rfl) T.len PySem.boot_len (pa_cons (pv 1) pa_nil)) pe_int) (pa_cons (pe_ix ix_list (pe_ix ix_list (pv 1) (pe_op op_sub (pe_callB call_len_seq (by rfl) T.len PySem.boot_len (pa_cons (pv 1) pa_nil)) pe_int) (fun _ _ => rfl)) pe_int (fun _ _ => rfl)) pa_nil))) pa_nil)))))), ?_⟩
    have hrlen : rs.length = L + 1 := by rw [allr.len]; simp [rowsL]
    have el : ((rs.length : Nat) : Int) - 1 = ((L : Nat) : Int) := by omega
    obtain ⟨vl, hvl, rl, rfl, hrl⟩ := allr.get (rng_at (g := rowL z y L) (Nat.lt_succ_self L))
    have g0 : ((rowL z y L L).map V.int)[0]? = some (.int (row z y L 0)) := by
      rw [rowL, Nat.sub_self]
      rfl
    refine ⟨_, rfl, _, rfl, ar, _, rfl, .inl (SqL.of har), _, _, rfl, rfl, _, rfl, _, rfl, ar, _, rfl, .inl (SqL.of har), _, _, rfl, rfl, ar, rs, ((L : Nat) : Int), _, rfl, congrArg V.int el, SqL.of har, atI_nat hvl, rl, _, ((0 : Nat) : Int), _, rfl, rfl, SqL.of hrl, atI_nat g0, by show 2 ≤ sizeLine; decide, fun p1 n1 => ?_⟩
    refine ⟨p1, z, 6, [(L : Int), row z y L 0], rfl, hz, .inl (SqL.of (upd_same.trans (congrArg (fun q => some (HO.lst [V.int q, V.int (row z y L 0)])) el))), ⟨by show 2 ≤ 100; decide, ?_⟩, fun H9 s9 => k _ ((Same.new n1).trans s9)⟩
    intro n hn
    have q1 := (nn_row z y L 0).2
    have q3 : (L : Int) < 2 ^ 128 := by rw [p128]; omega
    simp only [List.mem_cons, List.not_mem_nil, or_false] at hn
    rcases hn with rfl | rfl
    · exact q3
    · exact q1
theorem xor1 {q n : Nat} (h : q < 2 ^ n) (hn : 1 ≤ n) : ∃ x : Nat, Builtin.bitXor ((q : Nat) : Int) 1 = (x : Int) ∧ x < 2 ^ n := by
  refine ⟨q ^^^ 1, ?_, Nat.xor_lt_two_pow h ?_⟩
  · rw [Bits.bitXor_pp (Int.natCast_nonneg _) (by decide)]
    rfl
  · have := Nat.pow_le_pow_right (n := 2) (by decide) hn
    omega
abbrev s_law_signed : Stmt := top 42
theorem sc_law_signed : FnScope ["_law_width", "_law_keys_here", "_law_rows_here", "_law_index", "_law_message", "_law_digits_here", "_law_words_here", "_law_path", "_law_k", "_law_level"] ["_law_width", "_law_keys_here", "_law_rows_here", "_law_index", "_law_message"] (defScope s_law_signed) := ⟨rfl, rfl, rfl, by decide +kernel, rfl, by decide +kernel, by decide +kernel⟩
theorem ok_law_signed (F : Fun K "_law_signed" "_law_signed" s_law_signed f fd) (T : Tx K mg CH CS) (c_law_digits : C8.Cal P w K mg base 1 "_law_digits" spDigits []) :
    FnOk P w K mg base CX0 2 f fd ["_law_width", "_law_keys_here", "_law_rows_here", "_law_index", "_law_message"] spLSigned := by
  refine F.ok sc_law_signed (fun vs H Q E h => ?_) (fun cdv A outer s H vs Q E hr h => ?_)
  · obtain ⟨z, y, m, L, i, vk, vr, rfl, _⟩ := h
    rfl
  · obtain ⟨z, y, m, L, i, vk, vr, rfl, hz, hL, hi, ⟨ak, ks, rfl, hak, allk⟩, ⟨ar, rs, rfl, har, allr⟩, k⟩ := h
    have n26 := hz.nch
    refine ⟨_, (pss_cons (ps_set (i := 5) sc_law_signed.nd rfl (Or.inr rfl) (C8.pe_c c_law_digits hr (by decide) rfl (pa_cons (pv 0) (pa_cons (pv 4) pa_nil))))
        (pss_cons (ps_setLc (i := 6) (own := [("_law_k", 8)]) (g := gName 8) (tt := tYes) rfl sc_law_signed.nd rfl rfl (sw_true rfl rfl rfl (by decide +kernel)) (pi_range1 rfl T.range (pa_cons (pe_callB call_len_seq (by rfl) T.len PySem.boot_len (pa_cons (pv 5) pa_nil)) pa_nil)) (blkOk_by (N := ["_law_width", "_law_keys_here", "_law_rows_here", "_law_index", "_law_message", "_law_digits_here", "_law_words_here", "_law_path", "_law_k", "_law_level"]) (sc := defScope s_law_signed) (by decide +kernel)) (fun _ _ _ _ _ => (pg_name (i := 8) sc_law_signed.nd rfl (by first | exact Or.inl rfl | exact Or.inr rfl))) (fun _ _ _ _ _ => pts_nil) (fun _ _ _ _ _ => (pe_ix (r := rIxL K) ix_list (pe_ix (r := rIxL K) ix_list (pe_ix (r := rIxL K) ix_list (pv 1) (pv 3) (fun _ _ => rfl)) (pv 8) (fun _ _ => rfl)) (pe_ix (r := rIxL K) ix_list (pv 5) (pv 8) (fun _ _ => rfl)) (fun _ _ => rfl))))
        (pss_cons (ps_setLc (i := 7) (own := [("_law_level", 9)]) (g := gName 9) (tt := tYes) rfl sc_law_signed.nd rfl rfl (sw_true rfl rfl rfl (by decide +kernel)) (pi_range1 rfl T.range (pa_cons (pe_op op_sub (pe_callB call_len_seq (by rfl) T.len PySem.boot_len (pa_cons (pv 2) pa_nil)) pe_int) pa_nil)) (blkOk_by (N := ["_law_width", "_law_keys_here", "_law_rows_here", "_law_index", "_law_message", "_law_digits_here", "_law_words_here", "_law_path", "_law_k", "_law_level"]) (sc := defScope s_law_signed) (by decide +kernel)) (fun _ _ _ _ _ => (pg_name (i := 9) sc_law_signed.nd rfl (by first | exact Or.inl rfl | exact Or.inr rfl))) (fun _ _ _ _ _ => pts_nil) (fun _ _ _ _ _ => (pe_ix (r := rIxL K) ix_list (pe_ix (r := rIxL K) ix_list (pv 2) (pv 9) (fun _ _ => rfl)) (pe_op op_xor (pe_op op_shr (pv 3) (pv 9)) pe_int) (fun _ _ => rfl))))
        (pss_one (ps_ret (pe_callTy call_tuple_of (by rfl) T.tuple (by decide +kernel) (pa_cons (pe_op op_cat (pe_op op_cat (pe_lst (pa_cons (pv 3) pa_nil)) (pv 6)) (pv 7)) pa_nil))))))), ?_⟩
    refine ⟨_, rfl, _, rfl, z, m, rfl, hz, fun H1 d s1 n1 h1 => ?_⟩
    obtain ⟨v1, hv1, a1, ws, rfl, ha1, al1⟩ := allk.get (rng_at (g := fun (i : Nat) => keyL z y i) hi)
    refine ⟨_, rfl, d, _, rfl, .inl (SqL.of h1), (nch z : Int), by rw [List.length_map, digits_len], (n62 (by omega)).1, (n62 (by omega)).2, fun D hD => ?_⟩
    refine lc_it (walk_rng (n := ((nch z : Nat) : Int).toNat)) (fun c H' => Same H1 H' ∧ H' D = some (.lst (((List.range c).map fun (c : Nat) => wd z y i c (dgt z m c).toNat).map V.int))) ⟨Same.new hD, upd_same⟩ tr2 ?_ ?_
    · rintro c x H2 H3 hc ⟨s2, h2⟩ ⟨rfl, rfl⟩
      have hc : c < nch z := hc
      have s02 := s1.trans s2
      obtain ⟨v2, hv2, a2, rfl, ha2⟩ := al1.get (rng_at (g := fun (c : Nat) => chainL z y i c) hc)
      have d15 := dgt_le (w := z) (m := m) c
      have hgd : ((digits z m).map V.int)[c]? = some (.int (((dgt z m c).toNat : Nat) : Int)) := by
        rw [List.getElem?_map, dgt_mem hc, Int.toNat_of_nonneg d15.1]
        rfl
      have hv3 : ((chainL z y i c).map V.int)[(dgt z m c).toNat]? = some (.int (wd z y i c (dgt z m c).toNat)) := by
        rw [chainL, List.getElem?_map, rng_at (by omega)]
        rfl
      refine ⟨rfl, _, rfl, _, rfl, ak, ks, ((i : Nat) : Int), _, rfl, rfl, SqL.of (s02 _ _ hak), atI_nat hv1, _, rfl, a1, ws, ((c : Nat) : Int), _, rfl, rfl, SqL.of (s02 _ _ ha1), atI_nat hv2, _, rfl, _, rfl, d, _, ((c : Nat) : Int), _, rfl, rfl, SqL.of (s2 _ _ h1), atI_nat hgd, a2, _, (((dgt z m c).toNat : Nat) : Int), _, rfl, rfl, SqL.of (s02 _ _ ha2), atI_nat hv3, _, h2, sz2 (by simp; omega), ?_⟩
      exact put_int s2 hD rfl
    rintro H2 ⟨s2, h2⟩
    have s02 := s1.trans s2
    have hrlen : rs.length = L + 1 := by rw [allr.len]; simp [rowsL]
    have el : ((rs.length : Nat) : Int) - 1 = ((L : Nat) : Int) := by omega
    have hx : ∀ l : Nat, ∃ x : Nat, l < L → Builtin.bitXor (((i : Nat) : Int) / 2 ^ ((l : Nat) : Int).toNat) 1 = (x : Int) ∧ x < 2 ^ (L - l) := fun l => by
      by_cases hl : l < L
      · have e := half_pow hl
        have q : i / 2 ^ l < 2 ^ (L - l) := by
          refine Nat.div_lt_of_lt_mul ?_
          rw [← Nat.pow_add, show l + (L - l) = L by omega]
          exact hi
        obtain ⟨x, h1, h2⟩ := xor1 q (by omega)
        exact ⟨x, fun _ => ⟨by rw [shr_nat]; exact h1, h2⟩⟩
      · exact ⟨0, fun q => absurd q hl⟩
    obtain ⟨X, hX⟩ := Classical.axiomOfChoice hx
    refine ⟨_, rfl, ar, _, rfl, .inl (SqL.of (s02 _ _ har)), _, _, rfl, rfl, ((L : Nat) : Int), congrArg (fun q => [V.int q]) el, (n62 (by omega)).1, (n62 (by omega)).2, fun D2 hD2 => ?_⟩
    refine lc_it (walk_rng (n := ((L : Nat) : Int).toNat)) (fun l H' => Same H2 H' ∧ H' D2 = some (.lst (((List.range l).map fun (l : Nat) => row z y l (X l)).map V.int))) ⟨Same.new hD2, upd_same⟩ tr2 ?_ ?_
    · rintro l x H3 H4 hl ⟨s3, h3⟩ ⟨rfl, rfl⟩
      have hl : l < L := hl
      have s03 := s02.trans s3
      obtain ⟨vl, hvl, rl, rfl, hrl⟩ := allr.get (rng_at (g := rowL z y L) (Nat.lt_succ_of_lt hl))
      obtain ⟨ex, lx⟩ := hX l hl
      have g1 : ((rowL z y L l).map V.int)[X l]? = some (.int (row z y l (X l))) := by
        rw [rowL, List.getElem?_map, rng_at lx]
        rfl
      refine ⟨rfl, _, rfl, _, rfl, ar, rs, ((l : Nat) : Int), _, rfl, rfl, SqL.of (s03 _ _ har), atI_nat hvl, _, rfl, _, rfl, _, _, rfl, rfl, Int.natCast_nonneg l, _, _, rfl, rfl, rl, _, ((X l : Nat) : Int), _, rfl, congrArg V.int ex, SqL.of (s03 _ _ hrl), atI_nat g1, _, h3, sz2 (by simp; omega), ?_⟩
      exact put_int s3 hD2 rfl
    rintro H3 ⟨s3, h3⟩
    have s03 := s02.trans s3
    have h2' := s3 _ _ h2
    refine ⟨_, rfl, by show 1 ≤ sizeLine; decide, fun p1 n1 => ?_⟩
    refine ⟨_, rfl, p1, D, _, _, rfl, rfl, upd_same, Same.new n1 _ _ h2', sz1 (by simp; omega), fun p2 n2 => ?_⟩
    refine ⟨_, rfl, p2, D2, _, _, rfl, rfl, upd_same, Same.new n2 _ _ (Same.new n1 _ _ h3), sz1 (by simp; omega), fun p3 n3 => ?_⟩
    refine ⟨p3, _, rfl, .inl ⟨SqL.of upd_same, fun p4 n4 => ?_⟩⟩
    refine k _ p4 ((i : Int) :: (((List.range (nch z)).map fun (c : Nat) => wd z y i c (dgt z m c).toNat) ++ ((List.range L).map fun (l : Nat) => row z y l (X l)))) (s03.trans ((((Same.new n1).trans (Same.new n2)).trans (Same.new n3)).trans (Same.new n4))) (by simp; omega) ?_
    rw [upd_same, List.map_cons, List.map_append]
    rfl
end
end K11
namespace K11
open PySem L2
section
variable {P : Program} {w : World} {K : PySem.W.Frag} {mg : Str → Option Value} {base : Heap} {CH CS : Addr} {f : Addr} {fd : FuncData}
def lenAt (R : Addr) (H : Hp) : Nat := match H R with
  | some (.lst vs) => vs.length
  | _ => 0
abbrev s_law_rows : Stmt := top 40
theorem sc_law_rows : FnScope ["_law_width", "_law_keys_here", "_law_rows_here", "_law_index", "_law_row", "_law_level", "_law_words_here", "_law_k"] ["_law_width", "_law_keys_here"] (defScope s_law_rows) := ⟨rfl, rfl, rfl, by decide +kernel, rfl, by decide +kernel, by decide +kernel⟩
theorem ok_law_rows (F : Fun K "_law_rows" "_law_rows" s_law_rows f fd) (T : Tx K mg CH CS) (c_law_digest : C8.Cal P w K mg base 1 "_law_digest" (spLDigest K) []) : FnOk P w K mg base CX0 2 f fd ["_law_width", "_law_keys_here"] spLRows := by
  refine F.ok sc_law_rows (fun vs H Q E h => ?_) (fun cdv A outer s H vs Q E hr h => ?_)
  · obtain ⟨z, y, L, vk, rfl, _⟩ := h
    rfl
  · obtain ⟨z, y, L, vk, rfl, hz, hy, hL, ⟨ak, ks, rfl, hak, allk⟩, k⟩ := h
    have n26 := hz.nch
    have l64 := two_le6 hL
    have hklen : ks.length = 2 ^ L := by rw [allk.len]; simp [keysL]
    refine ⟨_, (pss_cons (ps_set (i := 2) sc_law_rows.nd rfl (Or.inl rfl) (pe_lst (pa_cons (pe_lst pa_nil) pa_nil)))
        (pss_cons (ps_for PassesOwn.never rfl (pi_range1 rfl T.range (pa_cons (pe_callB call_len_seq (by rfl) T.len PySem.boot_len (pa_cons (pv 1) pa_nil)) pa_nil)) (pg_name (i := 3) sc_law_rows.nd rfl (by first | exact Or.inl rfl | exact Or.inr rfl))
          (pss_one (ps_expr (pe_bm PySem.F.plainAttrs_list PySem.F.slot_list_append PySem.F.type_list_append mt_append (pe_ix ix_list (pv 2) pe_int (fun _ _ => rfl)) (pa_cons (C8.pe_c c_law_digest hr (by decide) rfl (pa_cons (pv 0) (pa_cons pe_int (pa_cons (pe_op op_cat (pe_lst (pa_cons (pv 3) pa_nil)) (pe_lc (own := [("_law_words_here", 6)]) (g := gName 6) (tt := tYes) rfl sc_law_rows.nd (pi_list (pe_ix ix_list (pv 1) (pv 3) (fun _ _ => rfl))) (blkOk_by (N := ["_law_width", "_law_keys_here", "_law_rows_here", "_law_index", "_law_row", "_law_level", "_law_words_here", "_law_k"]) (sc := defScope s_law_rows) (by decide +kernel)) (fun _ _ _ _ _ => (pg_name (i := 6) sc_law_rows.nd rfl (by first | exact Or.inl rfl | exact Or.inr rfl))) (fun _ _ _ _ _ => pts_nil) (fun _ _ _ _ _ => (pe_ix (r := rIxL K) ix_list (pv 6) pe_int (fun _ _ => rfl))))) pa_nil)))) pa_nil)))))
        (pss_cons (ps_while PassesOwn.never (pt_cmpR op_gt (pe_callB call_len_seq (by rfl) T.len PySem.boot_len (pa_cons (pe_ix ix_list (pv 2) (pe_op op_sub (pe_callB call_len_seq (by rfl) T.len PySem.boot_len (pa_cons (pv 2) pa_nil)) pe_int) (fun _ _ => rfl)) pa_nil)) pe_int (nomark _))
          (pss_cons (ps_set (i := 4) sc_law_rows.nd rfl (Or.inr rfl) (pe_ix ix_list (pv 2) (pe_op op_sub (pe_callB call_len_seq (by rfl) T.len PySem.boot_len (pa_cons (pv 2) pa_nil)) pe_int) (fun _ _ => rfl)))
        (pss_cons (ps_set (i := 5) sc_law_rows.nd rfl (Or.inr rfl) (pe_op op_sub (pe_callB call_len_seq (by rfl) T.len PySem.boot_len (pa_cons (pv 2) pa_nil)) pe_int))
        (pss_one (ps_expr (pe_bm PySem.F.plainAttrs_list PySem.F.slot_list_append PySem.F.type_list_append mt_append (pv 2) (pa_cons (pe_lc (own := [("_law_k", 7)]) (g := gName 7) (tt := tYes) rfl sc_law_rows.nd (pi_range3 rfl T.range (pa_cons pe_int (pa_cons (pe_callB call_len_seq (by rfl) T.len PySem.boot_len (pa_cons (pv 4) pa_nil)) (pa_cons pe_int pa_nil)))) (blkOk_by (N := ["_law_width", "_law_keys_here", "_law_rows_here", "_law_index", "_law_row", "_law_level", "_law_words_here", "_law_k"]) (sc := defScope s_law_rows) (by decide +kernel)) (fun _ _ _ _ _ => (pg_name (i := 7) sc_law_rows.nd rfl (by first | exact Or.inl rfl | exact Or.inr rfl))) (fun _ _ _ _ _ => pts_nil) (fun _ _ _ _ _ => (C8.pe_c c_law_digest hr (by decide) rfl (pa_cons (pv 0) (pa_cons pe_int (pa_cons (pe_lst (pa_cons (pv 5) (pa_cons (pe_ix (r := rIxL K) ix_list (pv 4) (pv 7) (fun _ _ => rfl)) (pa_cons (pe_ix (r := rIxL K) ix_list (pv 4) (pe_op op_add (pv 7) pe_int) (fun _ _ => rfl)) pa_nil)))) pa_nil)))))) pa_nil)))))))
        (pss_one (ps_ret (pv 2)))))), ?_⟩
    refine ⟨by show 0 ≤ sizeLine; decide, fun r0 n0 => ⟨by show 1 ≤ sizeLine; decide, fun R nR => ?_⟩⟩
    have s0 := (Same.new (o := HO.lst []) n0).trans (Same.new (o := HO.lst [V.ref r0]) nR)
    have R0 : H R = none := (Same.new n0).free nR
    have nr : r0 ≠ R := ne_of_none upd_same nR
    refine ⟨_, rfl, ak, _, rfl, .inl (SqL.of (s0 _ _ hak)), ((2 ^ L : Nat) : Int), by rw [hklen], (n62 (by omega)).1, (n62 (by omega)).2, ?_⟩
    refine for_it (walk_rng (n := ((2 ^ L : Nat) : Int).toNat)) (fun t σ H' => Same H H' ∧ (∃ v, σ = [some (.int z), some (.ref ak), some (.ref R), v, none, none, none, none]) ∧ H' R = some (.lst [.ref r0]) ∧ H' r0 = some (.lst (((List.range t).map (row z y 0)).map V.int)))
      ⟨s0, ⟨none, rfl⟩, upd_same, Same.new nR _ _ upd_same⟩ tr3 ?_ ?_
    · rintro t x σ H2 H3 ht ⟨s2, ⟨v, rfl⟩, hR2, h02⟩ ⟨rfl, rfl⟩
      have ht : t < 2 ^ L := ht
      obtain ⟨v1, hv1, a1, ws, rfl, ha1, al1⟩ := allk.get (rng_at (g := fun (i : Nat) => keyL z y i) ht)
      have hwlen : ws.length = nch z := by rw [al1.len]; simp [keyL]
      refine ⟨_, rfl, R, _, ((0 : Nat) : Int), _, rfl, rfl, SqL.of hR2, atI_nat rfl, .inl ⟨rfl, _, SqL.of h02⟩, ?_⟩
      refine ⟨_, rfl, _, rfl, by show 1 ≤ sizeLine; decide, fun p1 n1 => ?_⟩
      have s3 := s2.trans (Same.new (o := HO.lst [V.int (t : Int)]) n1)
      refine ⟨_, rfl, _, rfl, ak, ks, ((t : Nat) : Int), _, rfl, rfl, SqL.of (s3 _ _ hak), atI_nat hv1, a1, rfl, ⟨_, SqL.of (s3 _ _ ha1)⟩, fun D hD => ?_⟩
      refine lc_it (walk_list (K := K) (a := a1) (xs := ws)) (fun c H' => Same (L2.upd H3 p1 (.lst [.int (t : Int)])) H' ∧ H' D = some (.lst (((List.range c).map fun (c : Nat) => wd z y t c 15).map V.int))) ⟨Same.new hD, upd_same⟩ (fun c H' _ q => SqL.of (q.1 _ _ (s3 _ _ ha1))) ?_ ?_
      · rintro c x H4 H5 hc ⟨s4, h4⟩ ⟨rfl, hx⟩
        have hc : c < nch z := by omega
        obtain ⟨ch, hch, a2, rfl, ha2⟩ := al1.at_ hx
        rw [keyL, rng_at hc] at hch
        cases hch
        have g : ((chainL z y t c).map V.int)[15]? = some (.int (wd z y t c 15)) := by
          rw [chainL, List.getElem?_map, rng_at (by decide)]
          rfl
        refine ⟨rfl, _, rfl, a2, _, ((15 : Nat) : Int), _, rfl, rfl, SqL.of (s4 _ _ (s3 _ _ ha2)), atI_nat g, _, h4, sz2 (by simp; omega), ?_⟩
        exact put_int s4 hD rfl
      rintro H4 ⟨s4, h4⟩
      rw [hwlen] at h4
      have h4 : H4 D = some (.lst ((topsL z y t).map V.int)) := h4
      have lt : (topsL z y t).length = nch z := by simp [topsL]
      refine ⟨p1, D, _, _, rfl, rfl, s4 _ _ upd_same, h4, sz1 (by simp [lt]; omega), fun p2 n2 => ?_⟩
      refine ⟨p2, z, 5, (t : Int) :: topsL z y t, rfl, hz, .inl (SqL.of upd_same), ⟨?_, ?_⟩, fun H5 s5 => ?_⟩
      · rw [List.length_cons, lt]
        omega
      · intro n hn
        rcases List.mem_cons.mp hn with rfl | hn
        · rw [p128]
          omega
        · obtain ⟨c, _, rfl⟩ := List.mem_map.mp hn
          exact (nn_wd _ _ _ _ _).2
      · have s35 := ((Same.new (o := HO.lst [V.int (t : Int)]) n1).trans s4).trans ((Same.new n2).trans s5)
        have r00 : H r0 = none := n0
        refine ⟨r0, _, _, rfl, rfl, s35 _ _ h02, sz2 (by simp; omega), ?_⟩
        have pi := put_int (g := row z y 0) (i := t) (x := V.int (dig z 5 ((t : Int) :: topsL z y t))) (s2.trans s35) r00 rfl
        refine ⟨pi.1, ⟨_, rfl⟩, ?_, pi.2⟩
        rw [upd_ne (fun e => nr e.symm)]
        exact s35 _ _ hR2
    rintro σ H2 ⟨s2, ⟨v, rfl⟩, hR2, h02⟩
    have h02 : H2 r0 = some (.lst ((rowL z y L 0).map V.int)) := h02
    have r00 : H r0 = none := n0
    refine while_by (fun σ H' => Same H H' ∧ ∃ l : Nat, l ≤ L ∧ (∃ v3 v4 v5, σ = [some (.int z), some (.ref ak), some (.ref R), v3, v4, v5, none, none]) ∧ ∃ vs, H' R = some (.lst vs) ∧ All2 (LsI (hide (Nw H H') R)) vs ((List.range (l + 1)).map (rowL z y L)))
      (fun _ H' => L + 1 - lenAt R H') ⟨s2, 0, Nat.zero_le _, ⟨_, _, _, rfl⟩, [.ref r0], hR2, ?_⟩ ?_ ?_
    · refine All2.cons (vs := []) (xs := []) ⟨r0, rfl, ?_⟩ All2.nil
      rw [hide.at_ nr, Nw.at_ r00]
      exact h02
    · rintro σ H3 ⟨s3, l, hl, ⟨v3, v4, v5, rfl⟩, vs, hR3, all⟩
      have hlen : vs.length = l + 1 := by rw [all.len]; simp
      have el : ((vs.length : Nat) : Int) - 1 = ((l : Nat) : Int) := by omega
      obtain ⟨vl, hvl, rl, rfl, hrl⟩ := all.get (rng_at (g := rowL z y L) (Nat.lt_succ_self l))
      obtain ⟨nrl, hrl⟩ := hide.get hrl
      have hrl := (Nw.get hrl).2
      have hrowl : (((rowL z y L l).map V.int).length : Nat) = 2 ^ (L - l) := by simp [rowL]
      refine ⟨_, rfl, _, rfl, R, _, rfl, .inl (SqL.of hR3), _, _, rfl, rfl, R, vs, ((l : Nat) : Int), _, rfl, congrArg V.int el, SqL.of hR3, atI_nat hvl, rl, _, rfl, .inl (SqL.of hrl), _, _, rfl, rfl, _, rfl, ?_⟩
      refine ite2 (fun hpos => ?_) (fun hneg => ?_)
      · have hpos : (1 : Int) < ((((rowL z y L l).map V.int).length : Nat) : Int) := of_decide_eq_true hpos
        rw [hrowl] at hpos
        have hlL : l < L := by
          refine Classical.byContradiction fun q => ?_
          rw [show L - l = 0 by omega] at hpos
          exact absurd hpos (by decide)
        have hm1 := two_le6 (L := L - (l + 1)) (by omega)
        have e2m := half_pow hlL
        have hrow : (rowL z y L l).length = 2 * 2 ^ (L - (l + 1)) := by
          rw [← e2m]
          simp [rowL]
        generalize hm : 2 ^ (L - (l + 1)) = m at *
        refine ⟨_, rfl, _, rfl, R, _, rfl, .inl (SqL.of hR3), _, _, rfl, rfl, R, vs, ((l : Nat) : Int), _, rfl, congrArg V.int el, SqL.of hR3, atI_nat hvl, ?_⟩
        refine ⟨_, rfl, R, _, rfl, .inl (SqL.of hR3), _, _, rfl, rfl, ?_⟩
        refine ⟨_, rfl, .inl ⟨rfl, _, SqL.of hR3⟩, ?_⟩
        refine ⟨_, rfl, rl, _, rfl, .inl (SqL.of hrl), 0, ((2 * m : Nat) : Int), 2, m, ?_, rgc2 hm1.1 (by omega), fun D hD => ?_⟩
        · rw [List.length_map, hrow]
        refine lc_it (walk_rangeC (lo := 0) (c := 2) (n := m)) (fun i H' => Same H3 H' ∧ H' D = some (.lst (((List.range i).map (row z y (l + 1))).map V.int))) ⟨Same.new hD, upd_same⟩ tr2 ?_ ?_
        · rintro i x H10 H11 hi ⟨s10, h10⟩ ⟨rfl, rfl⟩
          have g1 : ((rowL z y L l).map V.int)[2 * i]? = some (.int (row z y l (2 * i))) := by
            rw [rowL, e2m, List.getElem?_map, rng_at (by omega)]
            rfl
          have g2 : ((rowL z y L l).map V.int)[2 * i + 1]? = some (.int (row z y l (2 * i + 1))) := by
            rw [rowL, e2m, List.getElem?_map, rng_at (by omega)]
            rfl
          have k1 : (0 : Int) + (i : Int) * 2 = ((2 * i : Nat) : Int) := by omega
          have k2 : (0 : Int) + (i : Int) * 2 + 1 = ((2 * i + 1 : Nat) : Int) := by omega
          have hrl' := s10 _ _ hrl
          refine ⟨rfl, _, rfl, _, rfl, _, rfl, _, rfl, rl, _, ((2 * i : Nat) : Int), _, rfl, congrArg V.int k1, SqL.of hrl', atI_nat g1, _, rfl, _, rfl, _, _, rfl, rfl, rl, _, ((2 * i + 1 : Nat) : Int), _, rfl, congrArg V.int k2, SqL.of hrl', atI_nat g2, by show 3 ≤ sizeLine; decide, fun p1 n1 => ?_⟩
          refine ⟨p1, z, 6, [(l : Int), row z y l (2 * i), row z y l (2 * i + 1)], rfl, hz, .inl (SqL.of (upd_same.trans (congrArg (fun q => some (HO.lst [V.int q, V.int (row z y l (2 * i)), V.int (row z y l (2 * i + 1))])) el))), ⟨by show 3 ≤ 100; decide, ?_⟩, fun H12 s12 => ?_⟩
          · intro n hn
            have q1 := (nn_row z y l (2 * i)).2
            have q2 := (nn_row z y l (2 * i + 1)).2
            have q3 : (l : Int) < 2 ^ 128 := by rw [p128]; omega
            simp only [List.mem_cons, List.not_mem_nil, or_false] at hn
            rcases hn with rfl | rfl | rfl
            · exact q3
            · exact q1
            · exact q2
          · refine ⟨_, s12 _ _ (Same.new n1 _ _ h10), sz2 (by simp; omega), ?_⟩
            exact put_int (s10.trans ((Same.new n1).trans s12)) hD rfl
        rintro H4 ⟨s4, h4⟩
        have h4 : H4 D = some (.lst ((rowL z y L (l + 1)).map V.int)) := by
          rw [h4]
          simp [rowL, hm]
        have hR4 := s4 _ _ hR3
        have nDR : D ≠ R := fun e => by rw [e, hR3] at hD; cases hD
        refine ⟨R, vs, _, rfl, rfl, hR4, sz2 (by omega), ⟨Same.put (s3.trans s4) R0, l + 1, hlL, ⟨_, _, _, rfl⟩, _, upd_same, ?_⟩, ?_⟩
        · rw [hide.upd]
          refine All2.next (all.mono fun v x => LsI.mono _ _ _ _ (hide.grow (Nw.grow s4))) ⟨D, rfl, ?_⟩
          rw [hide.at_ nDR, Nw.at_ (s3.free hD)]
          exact h4
        · unfold lenAt
          rw [upd_same, hR3]
          simp
          omega
      · have hneg : ¬ (1 : Int) < ((((rowL z y L l).map V.int).length : Nat) : Int) := fun q => hneg (decide_eq_true q)
        rw [hrowl] at hneg
        have hlL : l = L := by
          refine Classical.byContradiction fun q => ?_
          have e := half_pow (show l < L by omega)
          have p := Nat.pow_pos (n := L - (l + 1)) (show 0 < 2 by decide)
          omega
        subst hlL
        refine ⟨_, rfl, k _ _ s3 ⟨R, vs, rfl, ?_, all.mono fun v x => LsI.mono _ _ _ _ hide.to⟩⟩
        rw [Nw.at_ R0]
        exact hR3
    · intro σ H Q Q' hQ h
      obtain ⟨x1, e1, x2, e2, p, ys, e3, e4, i, j, e5, e6, p', xs, i', v, e7, e8, e9, e10, p'', ys', e11, e12, i2, j2, e13, e14, b, e15, q⟩ := h
      exact ⟨x1, e1, x2, e2, p, ys, e3, e4, i, j, e5, e6, p', xs, i', v, e7, e8, e9, e10, p'', ys', e11, e12, i2, j2, e13, e14, b, e15, hQ _ _ q⟩
end
end K11
namespace K11
open PySem L2
section
variable {P : Program} {w : World} {K : PySem.W.Frag} {mg : Str → Option Value} {base : Heap} {CH CS : Addr} {f : Addr} {fd : FuncData}
theorem place_of {i l : Nat} : ((i : Nat) : Int) / 2 ^ ((l : Nat) : Int).toNat / 2 ^ (1 : Int).toNat * 2 ^ (1 : Int).toNat = ((2 * (i / 2 ^ l / 2) : Nat) : Int) := by
  have e : (2 : Int) ^ (1 : Int).toNat = 2 := by decide
  rw [shr_nat, e]
  omega
abbrev s_law_true : Stmt := top 46
theorem sc_law_true : FnScope ["_law_width", "_law_keys_here", "_law_rows_here", "_law_index", "_law_found", "_law_level", "_law_place", "_law_words_here"] ["_law_width", "_law_keys_here", "_law_rows_here", "_law_index"] (defScope s_law_true) := ⟨rfl, rfl, rfl, by decide +kernel, rfl, by decide +kernel, by decide +kernel⟩
theorem ok_law_true (F : Fun K "_law_true" "_law_true" s_law_true f fd) (T : Tx K mg CH CS) : FnOk P w K mg base CX0 1 f fd ["_law_width", "_law_keys_here", "_law_rows_here", "_law_index"] spLTrue := by
  refine F.ok sc_law_true (fun vs H Q E h => ?_) (fun cdv A outer s H vs Q E hr h => ?_)
  · obtain ⟨z, y, L, i, vk, vr, rfl, _⟩ := h
    rfl
  · obtain ⟨z, y, L, i, vk, vr, rfl, hz, hL, hi, ⟨ak, ks, rfl, hak, allk⟩, ⟨ar, rs, rfl, har, allr⟩, k⟩ := h
    have n26 := hz.nch
    have i64 := two_le6 hL
    obtain ⟨v1, hv1, a1, ws, rfl, ha1, al1⟩ := allk.get (rng_at (g := fun (i : Nat) => keyL z y i) hi)
    have hwlen : ws.length = nch z := by rw [al1.len]; simp [keyL]
    have lt : (topsL z y i).length = nch z := by simp [topsL]
    have hrlen : rs.length = L + 1 := by rw [allr.len]; simp [rowsL]
    have el : ((rs.length : Nat) : Int) - 1 = ((L : Nat) : Int) := by omega
    refine ⟨_, (pss_cons (ps_set (i := 4) sc_law_true.nd rfl (Or.inl rfl) (pe_lst (pa_cons (pe_tup (pa_cons pe_int (pa_cons (pe_callTy call_tuple_of (by rfl) T.tuple (by decide +kernel) (pa_cons (pe_op op_cat (pe_lst (pa_cons (pv 3) pa_nil)) (pe_lc (own := [("_law_words_here", 7)]) (g := gName 7) (tt := tYes) rfl sc_law_true.nd (pi_list (pe_ix ix_list (pv 1) (pv 3) (fun _ _ => rfl))) (blkOk_by (N := ["_law_width", "_law_keys_here", "_law_rows_here", "_law_index", "_law_found", "_law_level", "_law_place", "_law_words_here"]) (sc := defScope s_law_true) (by decide +kernel)) (fun _ _ _ _ _ => (pg_name (i := 7) sc_law_true.nd rfl (by first | exact Or.inl rfl | exact Or.inr rfl))) (fun _ _ _ _ _ => pts_nil) (fun _ _ _ _ _ => (pe_ix (r := rIxL K) ix_list (pv 7) pe_int (fun _ _ => rfl))))) pa_nil)) pa_nil))) pa_nil)))
        (pss_cons (ps_for PassesOwn.never rfl (pi_range1 rfl T.range (pa_cons (pe_op op_sub (pe_callB call_len_seq (by rfl) T.len PySem.boot_len (pa_cons (pv 2) pa_nil)) pe_int) pa_nil)) (pg_name (i := 5) sc_law_true.nd rfl (by first | exact Or.inl rfl | exact Or.inr rfl))
          (pss_cons (ps_set (i := 6) sc_law_true.nd rfl (Or.inl rfl) (pe_op op_shl (pe_op op_shr (pe_op op_shr (pv 3) (pv 5)) pe_int) pe_int))
        (pss_one (ps_expr (pe_bm PySem.F.plainAttrs_list PySem.F.slot_list_append PySem.F.type_list_append mt_append (pv 4) (pa_cons (pe_tup (pa_cons pe_int (pa_cons (pe_tup (pa_cons (pv 5) (pa_cons (pe_ix ix_list (pe_ix ix_list (pv 2) (pv 5) (fun _ _ => rfl)) (pv 6) (fun _ _ => rfl)) (pa_cons (pe_ix ix_list (pe_ix ix_list (pv 2) (pv 5) (fun _ _ => rfl)) (pe_op op_add (pv 6) pe_int) (fun _ _ => rfl)) pa_nil)))) pa_nil))) pa_nil))))))
        (pss_one (ps_ret (pe_op op_cat (pv 4) (pe_lst (pa_cons (pe_tup (pa_cons pe_int (pa_cons (pe_tup (pa_cons (pe_op op_sub (pe_callB call_len_seq (by rfl) T.len PySem.boot_len (pa_cons (pv 2) pa_nil)) pe_int) (pa_cons (pe_ix ix_list (pe_ix ix_list (pv 2) (pe_op op_sub (pe_callB call_len_seq (by rfl) T.len PySem.boot_len (pa_cons (pv 2) pa_nil)) pe_int) (fun _ _ => rfl)) pe_int (fun _ _ => rfl)) pa_nil))) pa_nil))) pa_nil))))))), ?_⟩
    refine ⟨_, rfl, by show 1 ≤ sizeLine; decide, fun p1 n1 => ?_⟩
    have s1 := Same.new (o := HO.lst [V.int (i : Int)]) n1
    refine ⟨_, rfl, _, rfl, ak, ks, ((i : Nat) : Int), _, rfl, rfl, SqL.of (s1 _ _ hak), atI_nat hv1, a1, rfl, ⟨_, SqL.of (s1 _ _ ha1)⟩, fun D hD => ?_⟩
    refine lc_it (walk_list (K := K) (a := a1) (xs := ws)) (fun c H' => Same (L2.upd H p1 (.lst [.int (i : Int)])) H' ∧ H' D = some (.lst (((List.range c).map fun (c : Nat) => wd z y i c 15).map V.int))) ⟨Same.new hD, upd_same⟩ (fun c H' _ q => SqL.of (q.1 _ _ (s1 _ _ ha1))) ?_ ?_
    · rintro c x H4 H5 hc ⟨s4, h4⟩ ⟨rfl, hx⟩
      have hc : c < nch z := by omega
      obtain ⟨ch, hch, a2, rfl, ha2⟩ := al1.at_ hx
      rw [keyL, rng_at hc] at hch
      cases hch
      have g : ((chainL z y i c).map V.int)[15]? = some (.int (wd z y i c 15)) := by
        rw [chainL, List.getElem?_map, rng_at (by decide)]
        rfl
      refine ⟨rfl, _, rfl, a2, _, ((15 : Nat) : Int), _, rfl, rfl, SqL.of (s4 _ _ (s1 _ _ ha2)), atI_nat g, _, h4, sz2 (by simp; omega), ?_⟩
      exact put_int s4 hD rfl
    rintro H2 ⟨s12, h2⟩
    rw [hwlen] at h2
    have h2 : H2 D = some (.lst ((topsL z y i).map V.int)) := h2
    refine ⟨p1, D, _, _, rfl, rfl, s12 _ _ upd_same, h2, sz1 (by simp [lt]; omega), fun p2 n2' => ?_⟩
    refine ⟨p2, _, rfl, .inl ⟨SqL.of upd_same, fun p3 n3 => ?_⟩⟩
    refine ⟨by show 2 ≤ sizeLine; decide, fun p4 n4 => ⟨by show 1 ≤ sizeLine; decide, fun R nR => ?_⟩⟩
    have s02 := s1.trans s12
    obtain ⟨H4, e4⟩ : ∃ H4, H4 = upd (upd (upd (upd H2 p2 (.lst ([.int i] ++ (topsL z y i).map V.int))) p3 (.tup ([.int i] ++ (topsL z y i).map V.int))) p4 (.tup [.int 5, .ref p3])) R (.lst [.ref p4]) := ⟨_, rfl⟩
    have s24 : Same H2 H4 := by rw [e4]; exact (((Same.new n2').trans (Same.new n3)).trans (Same.new n4)).trans (Same.new nR)
    have hR4 : H4 R = some (.lst [.ref p4]) := by rw [e4]; exact upd_same
    have h44 : H4 p4 = some (.tup [.int 5, .ref p3]) := by rw [e4]; exact Same.new nR _ _ upd_same
    have h43 : H4 p3 = some (.tup (((i : Int) :: topsL z y i).map V.int)) := by rw [e4]; exact Same.new nR _ _ (Same.new n4 _ _ upd_same)
    have p30 : H p3 = none := (s02.trans (Same.new n2')).free n3
    have p40 : H p4 = none := ((s02.trans (Same.new n2')).trans (Same.new n3)).free n4
    have R0 : H R = none := (((s02.trans (Same.new n2')).trans (Same.new n3)).trans (Same.new n4)).free nR
    have np3 : p3 ≠ R := fun e => by rw [e, hR4] at h43; cases h43
    have np4 : p4 ≠ R := fun e => by rw [e, hR4] at h44; cases h44
    rw [← e4]
    clear e4 n2' n3 n4 nR
    have s04 := s02.trans s24
    refine ⟨_, rfl, ar, _, rfl, .inl (SqL.of (s04 _ _ har)), _, _, rfl, rfl, (L : Int), congrArg (fun q => [V.int q]) el, (n62 (by omega)).1, (n62 (by omega)).2, ?_⟩
    refine for_it (walk_rng (n := ((L : Nat) : Int).toNat)) (fun l σ H' => Same H H' ∧ (∃ v5 v6, σ = [some (.int z), some (.ref ak), some (.ref ar), some (.int i), some (.ref R), v5, v6, none]) ∧ ∃ vs, H' R = some (.lst vs) ∧ All2 (In1 (hide (Nw H H') R)) vs ((List.range (l + 1)).map (tn z y i)))
      ⟨s04, ⟨none, none, rfl⟩, [.ref p4], hR4, ?_⟩ tr3 ?_ ?_
    · exact All2.cons (vs := []) (xs := []) (in1_new h44 h43 p40 p30 np4 np3) All2.nil
    · rintro l x σ H6 H7 hl ⟨s6, ⟨v5, v6, rfl⟩, vs, h6, all⟩ ⟨rfl, rfl⟩
      have hl : l < L := hl
      have hlen : vs.length = l + 1 := by rw [all.len]; simp
      obtain ⟨vl, hvl, rl, rfl, hrl⟩ := allr.get (rng_at (g := rowL z y L) (Nat.lt_succ_of_lt hl))
      have hrl6 := s6 _ _ hrl
      have har6 := s6 _ _ har
      have hq := q_lt hi hl
      have g1 : ((rowL z y L l).map V.int)[2 * (i / 2 ^ l / 2)]? = some (.int (row z y l (2 * (i / 2 ^ l / 2)))) := by
        rw [rowL, List.getElem?_map, rng_at (by omega)]
        rfl
      have g2 : ((rowL z y L l).map V.int)[2 * (i / 2 ^ l / 2) + 1]? = some (.int (row z y l (2 * (i / 2 ^ l / 2) + 1))) := by
        rw [rowL, List.getElem?_map, rng_at (by omega)]
        rfl
      have eb := place_of (i := i) (l := l)
      have eb1 : ((i : Nat) : Int) / 2 ^ ((l : Nat) : Int).toNat / 2 ^ (1 : Int).toNat * 2 ^ (1 : Int).toNat + 1 = ((2 * (i / 2 ^ l / 2) + 1 : Nat) : Int) := by
        rw [eb]
        rfl
      have c1 : CPow (((i : Nat) : Int) / 2 ^ ((l : Nat) : Int).toNat / 2 ^ (1 : Int).toNat) 1 := by
        refine ⟨by decide, by decide, ?_⟩
        have e : (2 : Int) ^ (1 : Int).toNat = 2 := by decide
        have e2 : (2 : Nat) ^ 64 = 18446744073709551616 := by decide +kernel
        have h3 : i / 2 ^ l ≤ i := Nat.div_le_self _ _
        rw [shr_nat, e, e2]
        omega
      refine ⟨_, rfl, _, rfl, _, _, rfl, rfl, Int.natCast_nonneg l, _, _, rfl, rfl, by show (0 : Int) ≤ 1; decide, _, _, rfl, rfl, c1, ?_⟩
      refine ⟨_, rfl, .inl ⟨rfl, _, SqL.of h6⟩, _, rfl, _, rfl, _, rfl, ar, rs, ((l : Nat) : Int), _, rfl, rfl, SqL.of har6, atI_nat hvl, _, rfl, rl, _, _, _, rfl, congrArg V.int eb, SqL.of hrl6, atI_nat g1, _, rfl, _, rfl, ar, rs, ((l : Nat) : Int), _, rfl, rfl, SqL.of har6, atI_nat hvl, _, rfl, _, _, rfl, rfl, rl, _, _, _, rfl, congrArg V.int eb1, SqL.of hrl6, atI_nat g2, by show 3 ≤ sizeLine; decide, fun p3 n3 => ?_⟩
      refine ⟨by show 2 ≤ sizeLine; decide, fun p4 n4 => ?_⟩
      have sx8 := (Same.new n3).trans (Same.new (o := HO.tup [V.int 6, V.ref p3]) n4)
      have hRx := sx8 _ _ h6
      refine ⟨R, _, _, rfl, rfl, hRx, sz2 (by omega), Same.put (s6.trans sx8) R0, ⟨_, _, rfl⟩, _, upd_same, ?_⟩
      rw [hide.upd]
      refine All2.next (all.mono fun v x => In1.mono _ _ _ _ (hide.grow (Nw.grow sx8))) ?_
      rw [tn_succ]
      refine in1_new (a := p4) (b := p3) upd_same (Same.new n4 _ _ upd_same) ((s6.trans (Same.new n3)).free n4) (s6.free n3) (fun q => ?_) (fun q => ?_)
      · rw [q, Same.new n3 _ _ h6] at n4
        cases n4
      · rw [q, h6] at n3
        cases n3
    · rintro σ H6 ⟨s6, ⟨v5, v6, rfl⟩, vs, h6, all⟩
      have hlen : vs.length = L + 1 := by rw [all.len]; simp
      obtain ⟨vl, hvl, rl, rfl, hrl⟩ := allr.get (rng_at (g := rowL z y L) (Nat.lt_succ_self L))
      have har6 := s6 _ _ har
      have g0 : ((rowL z y L L).map V.int)[0]? = some (.int (row z y L 0)) := by
        rw [rowL, Nat.sub_self]
        rfl
      refine ⟨_, rfl, _, rfl, ar, _, rfl, .inl (SqL.of har6), _, _, rfl, rfl, _, rfl, _, rfl, ar, _, rfl, .inl (SqL.of har6), _, _, rfl, rfl, ar, rs, ((L : Nat) : Int), _, rfl, congrArg V.int el, SqL.of har6, atI_nat hvl, rl, _, ((0 : Nat) : Int), _, rfl, rfl, SqL.of (s6 _ _ hrl), atI_nat g0, by show 2 ≤ sizeLine; decide, fun p1 n1 => ?_⟩
      refine ⟨by show 2 ≤ sizeLine; decide, fun p2 n2 => ⟨by show 1 ≤ sizeLine; decide, fun p3 n3 => ?_⟩⟩
      have sx8 := ((Same.new n1).trans (Same.new n2)).trans (Same.new (o := HO.lst [V.ref p2]) n3)
      refine ⟨R, p3, _, _, rfl, rfl, sx8 _ _ h6, upd_same, sz1 (by show vs.length + 1 ≤ 10000; omega), fun p4 n4 => ?_⟩
      have n40 : H p4 = none := (s6.trans sx8).free n4
      refine k _ _ ((s6.trans sx8).trans (Same.new n4)) ⟨p4, vs ++ [.ref p2], rfl, ?_, ?_⟩
      · rw [Nw.at_ n40]
        exact upd_same
      · refine (all.mono fun v x q => In1.mono _ _ _ _ (hide.to.trans (Nw.grow (sx8.trans (Same.new n4)))) q).snoc ?_
        refine ⟨p2, p1, rfl, ?_, ?_⟩
        · rw [Nw.at_ ((s6.trans (Same.new n1)).free n2)]
          exact Same.new n4 _ _ (Same.new n3 _ _ upd_same)
        · rw [Nw.at_ (s6.free n1)]
          refine (Same.new n4 _ _ (Same.new n3 _ _ (Same.new n2 _ _ upd_same))).trans ?_
          exact congrArg (fun q => some (HO.tup [V.int q, V.int (row z y L 0)])) el
abbrev s_law_meeting : Stmt := top 47
theorem sc_law_meeting : FnScope ["_law_width", "_law_keys_here", "_law_index", "_law_chain", "_law_step_here", "_law_word", "_law_own", "_law_following"] ["_law_width", "_law_keys_here", "_law_index", "_law_chain", "_law_step_here", "_law_word"] (defScope s_law_meeting) := ⟨rfl, rfl, rfl, by decide +kernel, rfl, by decide +kernel, by decide +kernel⟩
theorem ok_law_meeting (F : Fun K "_law_meeting" "_law_meeting" s_law_meeting f fd) (c_law_step : C8.Cal P w K mg base 2 "_law_step" spLStep []) :
    FnOk P w K mg base CX0 3 f fd ["_law_width", "_law_keys_here", "_law_index", "_law_chain", "_law_step_here", "_law_word"] spLMeeting := by
  refine F.ok sc_law_meeting (fun vs H Q E h => ?_) (fun cdv A outer s H vs Q E hr h => ?_)
  · obtain ⟨z, y, d, x, L, i, c, vk, rfl, _⟩ := h
    rfl
  · obtain ⟨z, y, d, x, L, i, c, vk, rfl, hz, hL, hi, hc, d0, d15, hx, ⟨ak, ks, rfl, hak, allk⟩, k⟩ := h
    obtain ⟨d, rfl⟩ := Int.eq_ofNat_of_zero_le d0
    have n26 := hz.nch
    have i64 := two_le6 hL
    have d15 : d ≤ 15 := by omega
    have e15 : (15 - (d : Int)).toNat = 15 - d := by omega
    obtain ⟨v1, hv1, a1, ws, rfl, ha1, al1⟩ := allk.get (rng_at (g := fun (i : Nat) => keyL z y i) hi)
    obtain ⟨v2, hv2, a2, rfl, ha2⟩ := al1.get (rng_at (g := fun (c : Nat) => chainL z y i c) hc)
    have hv3 : ∀ t, t < 16 → ((chainL z y i c).map V.int)[t]? = some (.int (wd z y i c t)) := fun t ht => by
      rw [chainL, List.getElem?_map, rng_at ht]
      rfl
    refine ⟨_, (pss_cons (ps_while PassesOwn.never (pt_cmpR op_lt (pv 4) pe_int (nomark _))
          (pss_cons (ps_set (i := 6) sc_law_meeting.nd rfl (Or.inl rfl) (pe_ix ix_list (pe_ix ix_list (pe_ix ix_list (pv 1) (pv 2) (fun _ _ => rfl)) (pv 3) (fun _ _ => rfl)) (pv 4) (fun _ _ => rfl)))
        (pss_cons (ps_set (i := 7) sc_law_meeting.nd rfl (Or.inl rfl) (C8.pe_c c_law_step hr (by decide) rfl (pa_cons (pv 0) (pa_cons (pv 2) (pa_cons (pv 3) (pa_cons (pv 4) (pa_cons (pv 5) pa_nil)))))))
        (pss_cons (ps_if (pt_cmpR op_eq (pv 7) (pe_ix ix_list (pe_ix ix_list (pe_ix ix_list (pv 1) (pv 2) (fun _ _ => rfl)) (pv 3) (fun _ _ => rfl)) (pe_op op_add (pv 4) pe_int) (fun _ _ => rfl)) (nomark _)) (pss_one (ps_ret (pe_tup (pa_cons pe_str (pa_cons (pe_tup (pa_cons pe_int (pa_cons (pe_tup (pa_cons (pv 2) (pa_cons (pv 3) (pa_cons (pv 4) (pa_cons (pv 6) pa_nil))))) pa_nil))) (pa_cons (pe_tup (pa_cons pe_int (pa_cons (pe_tup (pa_cons (pv 2) (pa_cons (pv 3) (pa_cons (pv 4) (pa_cons (pv 5) pa_nil))))) pa_nil))) pa_nil)))))) pss_nil)
        (pss_cons (ps_set (i := 5) sc_law_meeting.nd rfl (Or.inl rfl) (pv 7))
        (pss_one (ps_set (i := 4) sc_law_meeting.nd rfl (Or.inl rfl) (pe_op op_add (pv 4) pe_int))))))))
        (pss_one (ps_ret pe_non))), ?_⟩
    refine while_by (fun σ H' => Same H H' ∧ ∃ t : Nat, d + t ≤ 15 ∧ (∃ v6 v7, σ = [some (.int z), some (.ref ak), some (.int i), some (.int c), some (.int ((d + t : Nat) : Int)), some (.int (wk z i c d x t)), v6, v7]) ∧ ∀ j, j < t → wk z i c d x (j + 1) ≠ wd z y i c (d + j + 1))
      (fun σ _ => 15 - num σ 4) ⟨Same.refl _, 0, d15, ⟨none, none, rfl⟩, fun j hj => by omega⟩ ?_ ?_
    · rintro σ H1 ⟨s1, t, ht, ⟨v6, v7, rfl⟩, no⟩
      (refine ⟨_, rfl, _, _, rfl, rfl, _, rfl, ?_⟩)
      refine ite2 (fun hpos => ?_) (fun hneg => ?_)
      · have hpos : ((d + t : Nat) : Int) < 15 := of_decide_eq_true hpos
        have hdt : d + t < 15 := by omega
        refine ⟨_, rfl, _, rfl, ak, ks, ((i : Nat) : Int), _, rfl, rfl, SqL.of (s1 _ _ hak), atI_nat hv1, _, rfl, a1, ws, ((c : Nat) : Int), _, rfl, rfl, SqL.of (s1 _ _ ha1), atI_nat hv2, _, rfl, a2, _, ((d + t : Nat) : Int), _, rfl, rfl, SqL.of (s1 _ _ ha2), atI_nat (hv3 (d + t) (by omega)), ?_⟩
        refine ⟨_, rfl, _, rfl, _, rfl, _, rfl, _, rfl, z, i, c, ((d + t : Nat) : Int), wk z i c d x t, rfl, hz, .of (by omega) (by omega), .of (by omega) (by omega), .of (by omega) (by omega), nn_wk hx _, fun H2 s2 => ?_⟩
        have s02 := s1.trans s2
        have et : ((d + t : Nat) : Int) + 1 = ((d + t + 1 : Nat) : Int) := rfl
        have ew : dig z 4 [(i : Int), c, ((d + t : Nat) : Int), wk z i c d x t] = wk z i c d x (t + 1) := by
          show _ = dig z 4 [(i : Int), c, (d : Int) + t, wk z i c d x t]
          rw [Int.natCast_add]
        refine ⟨_, rfl, _, rfl, _, rfl, ak, ks, ((i : Nat) : Int), _, rfl, rfl, SqL.of (s02 _ _ hak), atI_nat hv1, _, rfl, a1, ws, ((c : Nat) : Int), _, rfl, rfl, SqL.of (s02 _ _ ha1), atI_nat hv2, _, rfl, _, _, rfl, rfl, a2, _, ((d + t + 1 : Nat) : Int), _, rfl, rfl, SqL.of (s02 _ _ ha2), atI_nat (hv3 (d + t + 1) (by omega)), rfl, _, rfl, ite2 (fun e => ?_) (fun e => ?_)⟩
        · have e : dig z 4 [(i : Int), c, ((d + t : Nat) : Int), wk z i c d x t] = wd z y i c (d + t + 1) := V.int.inj (of_decide_eq_true e)
          rw [ew] at e
          have em : meet z y i c d x = .coll (4, [(i : Int), c, (d : Int) + t, wd z y i c (d + t)]) (4, [(i : Int), c, (d : Int) + t, wk z i c d x t]) := by
            unfold meet
            rw [e15, Int.toNat_natCast, find_some (show t < 15 - d by omega) (decide_eq_true e) fun j hj => decide_eq_false (no j hj)]
          rw [em] at k
          refine ⟨_, rfl, _, rfl, _, rfl, _, rfl, by show 4 ≤ sizeLine; decide, fun q1 m1 => ⟨by show 2 ≤ sizeLine; decide, fun q2 m2 => ?_⟩⟩
          refine ⟨_, rfl, _, rfl, _, rfl, _, rfl, by show 4 ≤ sizeLine; decide, fun q3 m3 => ⟨by show 2 ≤ sizeLine; decide, fun q4 m4 => ⟨by show 3 ≤ sizeLine; decide, fun q5 m5 => ?_⟩⟩⟩
          refine k _ _ (s02.trans (((((Same.new m1).trans (Same.new m2)).trans (Same.new m3)).trans (Same.new m4)).trans (Same.new m5))) ⟨q5, _, _, rfl, upd_same, ⟨q2, q1, rfl, ?_, ?_⟩, ⟨q4, q3, rfl, ?_, ?_⟩⟩
          · exact Same.new m5 _ _ (Same.new m4 _ _ (Same.new m3 _ _ upd_same))
          · exact Same.new m5 _ _ (Same.new m4 _ _ (Same.new m3 _ _ (Same.new m2 _ _ upd_same)))
          · exact Same.new m5 _ _ upd_same
          · exact Same.new m5 _ _ (Same.new m4 _ _ upd_same)
        · have e : ¬ dig z 4 [(i : Int), c, ((d + t : Nat) : Int), wk z i c d x t] = wd z y i c (d + t + 1) := fun q => e (decide_eq_true (congrArg V.int q))
          rw [ew] at e
          refine ⟨_, rfl, _, rfl, _, _, rfl, rfl, ⟨s02, t + 1, by omega, ⟨_, _, by rw [← ew]; rfl⟩, fun j hj => ?_⟩, ?_⟩
          · by_cases q : j < t
            · exact no j q
            · rw [show j = t by omega]
              exact e
          · show 15 - (((d + t : Nat) : Int) + 1).toNat < 15 - ((d + t : Nat) : Int).toNat
            omega
      · have hneg : ¬ ((d + t : Nat) : Int) < 15 := fun q => hneg (decide_eq_true q)
        have em : meet z y i c d x = .non := by
          unfold meet
          rw [e15, Int.toNat_natCast, find_none fun j hj => decide_eq_false (no j (by omega))]
        rw [em] at k
        exact k _ _ s1 rfl
    · intro σ H Q Q' hQ h
      obtain ⟨x1, e1, i2, j2, e13, e14, b, e15, q⟩ := h
      exact ⟨x1, e1, i2, j2, e13, e14, b, e15, hQ _ _ q⟩
end
end K11
namespace K11
open PySem L2
section
variable {P : Program} {w : World} {K : PySem.W.Frag} {mg : Str → Option Value} {base : Heap} {CH CS : Addr} {f : Addr} {fd : FuncData}
theorem bit_ix {i : Int} {l : Nat} {b : Nat} (h : i / 2 ^ l % 2 = (b : Int)) : i / 2 ^ ((l : Nat) : Int).toNat % 2 ^ 1 = (b : Int) := by
  have e : (2 : Int) ^ 1 = 2 := by decide
  rw [Int.toNat_natCast, e]
  exact h
theorem i64_of {z : Int} {sg : List Int} (sh : shapeOk z sg = true) : sx sg 0 < 64 := by
  obtain ⟨len, hL6, i0, i1, hw⟩ := shape_len sh
  have q := Int.ofNat_le.mpr (Nat.pow_le_pow_right (n := 2) (by decide) hL6)
  rw [PySem.W.kbt_cast, PySem.W.kbt_cast] at q
  have e : (2 : Int) ^ 6 = 64 := by decide
  omega
abbrev s_law_inputs : Stmt := top 43
theorem sc_law_inputs : FnScope ["_law_width", "_law_message", "_law_signature", "_law_digits_here", "_law_index", "_law_tops", "_law_k", "_law_word", "_law_step_here", "_law_found", "_law_path", "_law_level", "_law_digest_here"] ["_law_width", "_law_message", "_law_signature"] (defScope s_law_inputs) := ⟨rfl, rfl, rfl, by decide +kernel, rfl, by decide +kernel, by decide +kernel⟩
theorem ok_law_inputs (F : Fun K "_law_inputs" "_law_inputs" s_law_inputs f fd) (T : Tx K mg CH CS) (c_law_digits : C8.Cal P w K mg base 1 "_law_digits" spDigits []) (c_law_step : C8.Cal P w K mg base 2 "_law_step" spLStep [])
    (c_law_digest : C8.Cal P w K mg base 1 "_law_digest" (spLDigest K) []) : FnOk P w K mg base CX0 3 f fd ["_law_width", "_law_message", "_law_signature"] spLInputs := by
  refine F.ok sc_law_inputs (fun vs H Q E h => ?_) (fun cdv A outer s H vs Q E hr h => ?_)
  · obtain ⟨g, z, m, sg, rfl, _⟩ := h
    rfl
  · obtain ⟨g, z, m, sg, rfl, hz, hG, sh, k⟩ := h
    have hG : H g = some (.tup (sg.map V.int)) := hG
    obtain ⟨len, hL6, i0, i1, hw⟩ := shape_len sh
    have i64 := i64_of sh
    have n26 := hz.nch
    have at_ : ∀ {j : Nat}, j < sg.length → (sg.map V.int)[j]? = some (.int (sx sg j)) := fun {j} hj => by
      rw [List.getElem?_map, sx_at hj]
      rfl
    refine ⟨_, (pss_cons (ps_set (i := 3) sc_law_inputs.nd rfl (Or.inl rfl) (C8.pe_c c_law_digits hr (by decide) rfl (pa_cons (pv 0) (pa_cons (pv 1) pa_nil))))
        (pss_cons (ps_set (i := 4) sc_law_inputs.nd rfl (Or.inl rfl) (pe_ix ix_tup (pv 2) pe_int (fun _ _ => rfl)))
        (pss_cons (ps_set (i := 5) sc_law_inputs.nd rfl (Or.inl rfl) (pe_lst pa_nil))
        (pss_cons (ps_for PassesOwn.never rfl (pi_range1 rfl T.range (pa_cons (pe_callB call_len_seq (by rfl) T.len PySem.boot_len (pa_cons (pv 3) pa_nil)) pa_nil)) (pg_name (i := 6) sc_law_inputs.nd rfl (by first | exact Or.inl rfl | exact Or.inr rfl))
          (pss_cons (ps_set (i := 7) sc_law_inputs.nd rfl (Or.inl rfl) (pe_ix ix_tup (pv 2) (pe_op op_add pe_int (pv 6)) (fun _ _ => rfl)))
        (pss_cons (ps_for PassesOwn.never rfl (pi_range2 rfl T.range (pa_cons (pe_ix ix_list (pv 3) (pv 6) (fun _ _ => rfl)) (pa_cons pe_int pa_nil))) (pg_name (i := 8) sc_law_inputs.nd rfl (by first | exact Or.inl rfl | exact Or.inr rfl))
          (pss_one (ps_set (i := 7) sc_law_inputs.nd rfl (Or.inl rfl) (C8.pe_c c_law_step hr (by decide) rfl (pa_cons (pv 0) (pa_cons (pv 4) (pa_cons (pv 6) (pa_cons (pv 8) (pa_cons (pv 7) pa_nil)))))))))
        (pss_one (ps_expr (pe_bm PySem.F.plainAttrs_list PySem.F.slot_list_append PySem.F.type_list_append mt_append (pv 5) (pa_cons (pv 7) pa_nil)))))))
        (pss_cons (ps_set (i := 9) sc_law_inputs.nd rfl (Or.inl rfl) (pe_lst (pa_cons (pe_tup (pa_cons pe_int (pa_cons (pe_callTy call_tuple_of (by rfl) T.tuple (by decide +kernel) (pa_cons (pe_op op_cat (pe_lst (pa_cons (pv 4) pa_nil)) (pv 5)) pa_nil)) pa_nil))) pa_nil)))
        (pss_cons (ps_set (i := 10) sc_law_inputs.nd rfl (Or.inl rfl) (pe_slice sl_tup (pv 2) (po_some (pe_op op_add pe_int (pe_callB call_len_seq (by rfl) T.len PySem.boot_len (pa_cons (pv 3) pa_nil)))) po_none))
        (pss_cons (ps_for PassesOwn.never rfl (pi_range1 rfl T.range (pa_cons (pe_callB call_len_seq (by rfl) T.len PySem.boot_len (pa_cons (pv 10) pa_nil)) pa_nil)) (pg_name (i := 11) sc_law_inputs.nd rfl (by first | exact Or.inl rfl | exact Or.inr rfl))
          (pss_cons (ps_set (i := 12) sc_law_inputs.nd rfl (Or.inl rfl) (C8.pe_c c_law_digest hr (by decide) rfl (pa_cons (pv 0) (pa_cons (pe_ix ix_tup (pe_ix ix_list (pv 9) (pv 11) (fun _ _ => rfl)) pe_int (fun _ _ => rfl)) (pa_cons (pe_ix ix_tup (pe_ix ix_list (pv 9) (pv 11) (fun _ _ => rfl)) pe_int (fun _ _ => rfl)) pa_nil)))))
        (pss_one (ps_expr (pe_bm PySem.F.plainAttrs_list PySem.F.slot_list_append PySem.F.type_list_append mt_append (pv 9) (pa_cons (pe_tup (pa_cons pe_int (pa_cons (pe_ix ix_list (pe_lst (pa_cons (pe_tup (pa_cons (pv 11) (pa_cons (pv 12) (pa_cons (pe_ix ix_tup (pv 10) (pv 11) (fun _ _ => rfl)) pa_nil)))) (pa_cons (pe_tup (pa_cons (pv 11) (pa_cons (pe_ix ix_tup (pv 10) (pv 11) (fun _ _ => rfl)) (pa_cons (pv 12) pa_nil)))) pa_nil))) (pe_op op_andM (pe_op op_shr (pv 4) (pv 11)) pe_int) (fun _ _ => rfl)) pa_nil))) pa_nil))))))
        (pss_cons (ps_set (i := 12) sc_law_inputs.nd rfl (Or.inl rfl) (C8.pe_c c_law_digest hr (by decide) rfl (pa_cons (pv 0) (pa_cons (pe_ix ix_tup (pe_ix ix_list (pv 9) (pe_callB call_len_seq (by rfl) T.len PySem.boot_len (pa_cons (pv 10) pa_nil)) (fun _ _ => rfl)) pe_int (fun _ _ => rfl)) (pa_cons (pe_ix ix_tup (pe_ix ix_list (pv 9) (pe_callB call_len_seq (by rfl) T.len PySem.boot_len (pa_cons (pv 10) pa_nil)) (fun _ _ => rfl)) pe_int (fun _ _ => rfl)) pa_nil)))))
        (pss_one (ps_ret (pe_op op_cat (pv 9) (pe_lst (pa_cons (pe_tup (pa_cons pe_int (pa_cons (pe_tup (pa_cons (pe_callB call_len_seq (by rfl) T.len PySem.boot_len (pa_cons (pv 10) pa_nil)) (pa_cons (pv 12) pa_nil))) pa_nil))) pa_nil))))))))))))), ?_⟩
    refine ⟨_, rfl, _, rfl, z, m, rfl, hz, fun H1 d s1 n1 h1 => ?_⟩
    refine ⟨_, rfl, g, _, ((0 : Nat) : Int), _, rfl, rfl, SqT.of (s1 _ _ hG), atI_nat (at_ (by omega)), ?_⟩
    refine ⟨by show 0 ≤ sizeLine; decide, fun D hD => ?_⟩
    have s01 := s1.trans (Same.new (o := HO.lst []) hD)
    have h1' := Same.new (o := HO.lst []) hD _ _ h1
    have D0 : H D = none := s1.free hD
    have dl : ∀ (Hx : Hp), True := fun _ => trivial
    refine ⟨_, rfl, d, _, rfl, .inl (SqL.of h1'), (nch z : Int), by rw [List.length_map, digits_len], (n62 (by omega)).1, (n62 (by omega)).2, ?_⟩
    refine for_it (walk_rng (n := ((nch z : Nat) : Int).toNat)) (fun j σ H' => Same H H' ∧ (∃ v6 v7 v8, σ = [some (.int z), some (.int m), some (.ref g), some (.ref d), some (.int (sx sg 0)), some (.ref D), v6, v7, v8, none, none, none, none]) ∧ H' d = some (.lst ((digits z m).map V.int)) ∧
        H' D = some (.lst (((List.range j).map fun (j : Nat) => wk z (sx sg 0) j (dgt z m j) (sx sg (1 + j)) (15 - dgt z m j).toNat).map V.int))) ⟨s01, ⟨none, none, none, rfl⟩, h1', upd_same⟩ tr3 ?_ ?_
    · rintro j x σ H3 H4 hj ⟨s3, ⟨v6, v7, v8, rfl⟩, hd3, h3⟩ ⟨rfl, rfl⟩
      have hj : j < nch z := hj
      have hgd : ((digits z m).map V.int)[j]? = some (.int (dgt z m j)) := by
        rw [List.getElem?_map, dgt_mem hj]
        rfl
      have d15 := dgt_le (w := z) (m := m) j
      have xn : Nn (sx sg (1 + j)) := by
        rw [Nat.add_comm 1 j]
        have := sx_word hw hz j
        exact .of this.1 (by omega)
      have e1j : (1 : Int) + (j : Int) = ((1 + j : Nat) : Int) := by omega
      have a62 := n62 (n := (dgt z m j).toNat) (by omega)
      have a15 := n62 (n := 15) (by decide)
      refine ⟨_, rfl, _, rfl, _, _, rfl, rfl, g, _, ((1 + j : Nat) : Int), _, rfl, congrArg V.int e1j, SqT.of (s3 _ _ hG), atI_nat (at_ (by omega)), ?_⟩
      refine ⟨_, rfl, _, rfl, d, _, ((j : Nat) : Int), _, rfl, rfl, SqL.of hd3, atI_nat hgd, dgt z m j, 15, rfl, ⟨by omega, by omega, a15.1, a15.2⟩, ?_⟩
      refine for_range (lo := dgt z m j) (n := (15 - dgt z m j).toNat) (fun t σ H' => Same H4 H' ∧ (∃ v8, σ = [some (.int z), some (.int m), some (.ref g), some (.ref d), some (.int (sx sg 0)), some (.ref D), some (.int j), some (.int (wk z (sx sg 0) j (dgt z m j) (sx sg (1 + j)) t)), v8, none, none, none, none]))
        ⟨Same.refl _, ⟨_, rfl⟩⟩ ?_ ?_
      · rintro t σ H5 ht ⟨s5, ⟨v8', rfl⟩⟩
        refine ⟨_, rfl, _, rfl, _, rfl, _, rfl, _, rfl, z, sx sg 0, j, dgt z m j + t, _, rfl, hz, .of i0 (by omega), .of (by omega) (by omega), .of (by omega) (by omega), nn_wk xn _, fun H6 s6 => ?_⟩
        exact ⟨s5.trans s6, _, rfl⟩
      · rintro σ H5 ⟨s5, ⟨v8', rfl⟩⟩
        refine ⟨_, rfl, .inl ⟨rfl, _, SqL.of (s5 _ _ h3)⟩, _, rfl, D, _, _, rfl, rfl, s5 _ _ h3, sz2 (by simp; omega), ?_⟩
        have pi := put_int (g := fun (j : Nat) => wk z (sx sg 0) j (dgt z m j) (sx sg (1 + j)) (15 - dgt z m j).toNat) (i := j) (x := V.int (wk z (sx sg 0) j (dgt z m j) (sx sg (1 + j)) (15 - dgt z m j).toNat)) (s3.trans s5) D0 rfl
        refine ⟨pi.1, ⟨_, _, _, rfl⟩, ?_, pi.2⟩
        rw [upd_ne (fun e => by rw [e] at n1; rw [← e] at hD; rw [h1] at hD; cases hD)]
        exact s5 _ _ hd3
    clear s01 h1' dl
    rintro σ H3 ⟨s03, ⟨v6, v7, v8, rfl⟩, hd3, h3⟩
    have h3 : H3 D = some (.lst ((topsS z (sx sg 0) m sg).map V.int)) := h3
    have lt : (topsS z (sx sg 0) m sg).length = nch z := by simp [topsS]
    refine ⟨_, rfl, by show 1 ≤ sizeLine; decide, fun p1 n1 => ?_⟩
    refine ⟨_, rfl, p1, D, _, _, rfl, rfl, upd_same, Same.new n1 _ _ h3, sz1 (by simp [lt]; omega), fun p2 n2 => ?_⟩
    refine ⟨p2, _, rfl, .inl ⟨SqL.of upd_same, fun p3 n3 => ?_⟩⟩
    refine ⟨by show 2 ≤ sizeLine; decide, fun p4 n4 => ?_⟩
    refine ⟨by show 1 ≤ sizeLine; decide, fun R nR => ?_⟩
    obtain ⟨H4, e4⟩ : ∃ H4, H4 = upd (upd (upd (upd (upd H3 p1 (.lst [.int (sx sg 0)])) p2 (.lst ([.int (sx sg 0)] ++ (topsS z (sx sg 0) m sg).map V.int))) p3 (.tup ([.int (sx sg 0)] ++ (topsS z (sx sg 0) m sg).map V.int))) p4 (.tup [.int 5, .ref p3])) R (.lst [.ref p4]) := ⟨_, rfl⟩
    have s34 : Same H3 H4 := by rw [e4]; exact ((((Same.new n1).trans (Same.new n2)).trans (Same.new n3)).trans (Same.new n4)).trans (Same.new nR)
    have hR4 : H4 R = some (.lst [.ref p4]) := by rw [e4]; exact upd_same
    have h44 : H4 p4 = some (.tup [.int 5, .ref p3]) := by rw [e4]; exact Same.new nR _ _ upd_same
    have h43 : H4 p3 = some (.tup (((sx sg 0) :: topsS z (sx sg 0) m sg).map V.int)) := by rw [e4]; exact Same.new nR _ _ (Same.new n4 _ _ upd_same)
    have p30 : H p3 = none := ((s03.trans (Same.new n1)).trans (Same.new n2)).free n3
    have p40 : H p4 = none := (((s03.trans (Same.new n1)).trans (Same.new n2)).trans (Same.new n3)).free n4
    have R0 : H R = none := ((((s03.trans (Same.new n1)).trans (Same.new n2)).trans (Same.new n3)).trans (Same.new n4)).free nR
    have np3 : p3 ≠ R := fun e => by rw [e, hR4] at h43; cases h43
    have np4 : p4 ≠ R := fun e => by rw [e, hR4] at h44; cases h44
    rw [← e4]
    clear e4 n1 n2 n3 n4 nR
    have s04 := s03.trans s34
    have eL2 : (1 : Int) + ((((digits z m).map V.int).length : Nat) : Int) = ((nch z + 1 : Nat) : Int) := by
      rw [List.length_map, digits_len]
      omega
    have hd4 := s34 _ _ hd3
    have hG4 := s04 _ _ hG
    refine ⟨_, rfl, _, rfl, d, _, rfl, .inl (SqL.of hd4), _, _, rfl, rfl, _, congrArg V.int eL2, g, _, rfl, SqT.of hG4, cut_ne (a := nch z + 1) (by omega) (by rw [List.length_map]; omega), fun y ny => ?_⟩
    rw [cut_tail (by rw [List.length_map]; omega)]
    obtain ⟨H5, e5⟩ : ∃ H5, H5 = upd H4 y (.tup ((sg.map V.int).drop (nch z + 1))) := ⟨_, rfl⟩
    have hy5 : H5 y = some (.tup ((sg.map V.int).drop (nch z + 1))) := by rw [e5]; exact upd_same
    have s45 : Same H4 H5 := by rw [e5]; exact Same.new ny
    rw [← e5]
    clear e5 ny
    have ylen : ((sg.map V.int).drop (nch z + 1)).length = Ls z sg := by
      rw [List.length_drop, List.length_map]
      omega
    have hyl : ∀ l, l < Ls z sg → ((sg.map V.int).drop (nch z + 1))[l]? = some (.int (sx sg (1 + nch z + l))) := fun l hl => by
      rw [List.getElem?_drop, show nch z + 1 + l = 1 + nch z + l by omega]
      exact at_ (by omega)
    generalize (sg.map V.int).drop (nch z + 1) = ys at *
    refine ⟨_, rfl, y, _, rfl, .inr (SqT.of hy5), (Ls z sg : Int), by rw [ylen], (n62 (by omega)).1, (n62 (by omega)).2, ?_⟩
    refine for_it (walk_rng (n := ((Ls z sg : Nat) : Int).toNat)) (fun l σ H' => Same H H' ∧ (∃ v6 v7 v8 v11 v12, σ = [some (.int z), some (.int m), some (.ref g), some (.ref d), some (.int (sx sg 0)), some (.ref D), v6, v7, v8, some (.ref R), some (.ref y), v11, v12]) ∧
        H' y = some (.tup ys) ∧ ∃ vs, H' R = some (.lst vs) ∧ All2 (In1 (hide (Nw H H') R)) vs ((List.range (l + 1)).map (nd z (sx sg 0) m sg))) ⟨s04.trans s45, ⟨v6, v7, v8, none, none, rfl⟩, hy5, [.ref p4], s45 _ _ hR4, ?_⟩ tr3 ?_ ?_
    · exact All2.cons (vs := []) (xs := []) (in1_new (s45 _ _ h44) (s45 _ _ h43) p40 p30 np4 np3) All2.nil
    · rintro l x σ H6 H7 hl ⟨s6, ⟨v6, v7, v8, v11, v12, rfl⟩, hy6, vs, h6, all⟩ ⟨rfl, rfl⟩
      have hl : l < Ls z sg := hl
      have hlen : vs.length = l + 1 := by rw [all.len]; simp
      obtain ⟨vl, hvl, r⟩ := all.get (rng_at (g := nd z (sx sg 0) m sg) (Nat.lt_succ_self l))
      obtain ⟨a, b, rfl, ha, hb⟩ := in1_out r
      have sm := (Nd.ok (m := m) hz sh (l := l) (by omega)).sm
      refine ⟨_, rfl, _, rfl, _, rfl, R, vs, ((l : Nat) : Int), _, rfl, rfl, SqL.of h6, atI_nat hvl, a, _, ((0 : Nat) : Int), _, rfl, rfl, SqT.of ha, atI_nat rfl, _, rfl, _, rfl, R, vs, ((l : Nat) : Int), _, rfl, rfl, SqL.of h6, atI_nat hvl, a, _, ((1 : Nat) : Int), _, rfl, rfl, SqT.of ha, atI_nat rfl, b, z, _, _, rfl, hz, .inr (SqT.of hb), sm, fun H8 s8 => ?_⟩
      have s08 := s6.trans s8
      have hR8 := s8 _ _ h6
      have hy8 := s8 _ _ hy6
      have nyR : y ≠ R := fun q => by rw [q, h6] at hy6; cases hy6
      -- both orders of the two
      refine ⟨_, rfl, .inl ⟨rfl, _, SqL.of hR8⟩, _, rfl, _, rfl, _, rfl, _, rfl, y, _, ((l : Nat) : Int), _, rfl, rfl, SqT.of hy8, atI_nat (hyl l hl), by show 3 ≤ sizeLine; decide, fun p1 n1 => ?_⟩
      refine ⟨_, rfl, _, rfl, _, rfl, y, _, ((l : Nat) : Int), _, rfl, rfl, SqT.of (Same.new n1 _ _ hy8), atI_nat (hyl l hl), _, rfl, by show 3 ≤ sizeLine; decide, fun p2 n2 => ?_⟩
      refine ⟨by show 2 ≤ sizeLine; decide, fun p3 n3 => ?_⟩
      refine ⟨_, rfl, _, rfl, _, _, rfl, rfl, Int.natCast_nonneg l, _, 1, rfl, congrArg V.int (by decide), ?_⟩
      by_cases c : sx sg 0 / 2 ^ l % 2 = 0
      · have c' : sx sg 0 / 2 ^ l % 2 = ((0 : Nat) : Int) := c
        refine ⟨p3, [.ref p1, .ref p2], ((0 : Nat) : Int), .ref p1, rfl, congrArg V.int (bit_ix c'), SqL.of upd_same, atI_nat rfl, ?_⟩
        refine ⟨by show 2 ≤ sizeLine; decide, fun p4 n4 => ?_⟩
        have sx8 := (((Same.new n1).trans (Same.new n2)).trans (Same.new n3)).trans (Same.new (o := HO.tup [V.int 6, V.ref p1]) n4)
        have hRx := sx8 _ _ hR8
        refine ⟨R, _, _, rfl, rfl, hRx, sz2 (by omega), Same.put (s08.trans sx8) R0, ⟨_, _, _, _, _, rfl⟩, ?_, _, upd_same, ?_⟩
        · rw [upd_ne nyR]
          exact sx8 _ _ hy8
        · rw [hide.upd]
          have e := nd_even (z := z) (i := sx sg 0) (m := m) (sg := sg) (l := l) c
          refine All2.next (all.mono fun v x => In1.mono _ _ _ _ (hide.grow (Nw.grow (s8.trans sx8)))) ?_
          rw [e]
          refine in1_new (a := p4) (b := p1) upd_same (Same.new n4 _ _ (Same.new n3 _ _ (Same.new n2 _ _ upd_same))) ((((s08.trans (Same.new n1)).trans (Same.new n2)).trans (Same.new n3)).free n4) (s08.free n1) (fun q => ?_) (fun q => ?_)
          · rw [q, ((((Same.new n1).trans (Same.new n2)).trans (Same.new n3)) _ _ hR8)] at n4
            cases n4
          · rw [q, hR8] at n1
            cases n1
      · have c' : sx sg 0 / 2 ^ l % 2 = ((1 : Nat) : Int) := by omega
        refine ⟨p3, [.ref p1, .ref p2], ((1 : Nat) : Int), .ref p2, rfl, congrArg V.int (bit_ix c'), SqL.of upd_same, atI_nat rfl, ?_⟩
        refine ⟨by show 2 ≤ sizeLine; decide, fun p4 n4 => ?_⟩
        have sx8 := (((Same.new n1).trans (Same.new n2)).trans (Same.new n3)).trans (Same.new (o := HO.tup [V.int 6, V.ref p2]) n4)
        have hRx := sx8 _ _ hR8
        refine ⟨R, _, _, rfl, rfl, hRx, sz2 (by omega), Same.put (s08.trans sx8) R0, ⟨_, _, _, _, _, rfl⟩, ?_, _, upd_same, ?_⟩
        · rw [upd_ne nyR]
          exact sx8 _ _ hy8
        · rw [hide.upd]
          have e := nd_odd (z := z) (i := sx sg 0) (m := m) (sg := sg) (l := l) c
          refine All2.next (all.mono fun v x => In1.mono _ _ _ _ (hide.grow (Nw.grow (s8.trans sx8)))) ?_
          rw [e]
          refine in1_new (a := p4) (b := p2) upd_same (Same.new n4 _ _ (Same.new n3 _ _ upd_same)) ((((s08.trans (Same.new n1)).trans (Same.new n2)).trans (Same.new n3)).free n4) ((s08.trans (Same.new n1)).free n2) (fun q => ?_) (fun q => ?_)
          · rw [q, ((((Same.new n1).trans (Same.new n2)).trans (Same.new n3)) _ _ hR8)] at n4
            cases n4
          · rw [q, Same.new n1 _ _ hR8] at n2
            cases n2
    · rintro σ H6 ⟨s6, ⟨v6, v7, v8, v11, v12, rfl⟩, hy6, vs, h6, all⟩
      have hlen : vs.length = Ls z sg + 1 := by rw [all.len]; simp
      obtain ⟨vl, hvl, r⟩ := all.get (rng_at (g := nd z (sx sg 0) m sg) (Nat.lt_succ_self (Ls z sg)))
      obtain ⟨a, b, rfl, ha, hb⟩ := in1_out r
      have sm := (Nd.ok (m := m) hz sh (l := Ls z sg) (by omega)).sm
      have ey : ((ys.length : Nat) : Int) = ((Ls z sg : Nat) : Int) := by rw [ylen]
      refine ⟨_, rfl, _, rfl, _, rfl, y, _, rfl, .inr (SqT.of hy6), R, vs, ((Ls z sg : Nat) : Int), _, rfl, congrArg V.int ey, SqL.of h6, atI_nat hvl, a, _, ((0 : Nat) : Int), _, rfl, rfl, SqT.of ha, atI_nat rfl, _, rfl, _, rfl, y, _, rfl, .inr (SqT.of hy6), R, vs, ((Ls z sg : Nat) : Int), _, rfl, congrArg V.int ey, SqL.of h6, atI_nat hvl, a, _, ((1 : Nat) : Int), _, rfl, rfl, SqT.of ha, atI_nat rfl, b, z, _, _, rfl, hz, .inr (SqT.of hb), sm, fun H8 s8 => ?_⟩
      have s08 := s6.trans s8
      have hR8 := s8 _ _ h6
      have hy8 := s8 _ _ hy6
      refine ⟨_, rfl, _, rfl, y, _, rfl, .inr (SqT.of hy8), _, rfl, by show 2 ≤ sizeLine; decide, fun p1 n1 => ?_⟩
      refine ⟨by show 2 ≤ sizeLine; decide, fun p2 n2 => ⟨by show 1 ≤ sizeLine; decide, fun p3 n3 => ?_⟩⟩
      have sx8 := ((Same.new n1).trans (Same.new n2)).trans (Same.new (o := HO.lst [V.ref p2]) n3)
      refine ⟨R, p3, _, _, rfl, rfl, sx8 _ _ hR8, upd_same, sz1 (by show vs.length + 1 ≤ 10000; omega), fun p4 n4 => ?_⟩
      have n40 : H p4 = none := (s08.trans sx8).free n4
      refine k _ _ ((s08.trans sx8).trans (Same.new n4)) ⟨p4, vs ++ [.ref p2], rfl, ?_, ?_⟩
      · rw [Nw.at_ n40]
        exact upd_same
      · refine (all.mono fun v x q => In1.mono _ _ _ _ (hide.to.trans (Nw.grow ((s8.trans sx8).trans (Same.new n4)))) q).snoc ?_
        refine ⟨p2, p1, rfl, ?_, ?_⟩
        · rw [Nw.at_ ((s08.trans (Same.new n1)).free n2)]
          exact Same.new n4 _ _ (Same.new n3 _ _ upd_same)
        · rw [Nw.at_ (s08.free n1)]
          refine (Same.new n4 _ _ (Same.new n3 _ _ (Same.new n2 _ _ upd_same))).trans ?_
          rw [ylen]
          rfl
abbrev s_law_valid : Stmt := top 44
theorem sc_law_valid : FnScope ["_law_width", "_law_public_here", "_law_message", "_law_signature", "_law_levels", "_law_tag", "_law_numbers", "_law_word"] ["_law_width", "_law_public_here", "_law_message", "_law_signature"] (defScope s_law_valid) := ⟨rfl, rfl, rfl, by decide +kernel, rfl, by decide +kernel, by decide +kernel⟩
theorem ok_law_valid (F : Fun K "_law_valid" "_law_valid" s_law_valid f fd) (T : Tx K mg CH CS) (c_law_digits : C8.Cal P w K mg base 1 "_law_digits" spDigits []) (c_law_inputs : C8.Cal P w K mg base 3 "_law_inputs" spLInputs [])
    (c_law_digest : C8.Cal P w K mg base 1 "_law_digest" (spLDigest K) []) : FnOk P w K mg base CX0 4 f fd ["_law_width", "_law_public_here", "_law_message", "_law_signature"] spLValid := by
  refine F.ok sc_law_valid (fun vs H Q E h => ?_) (fun cdv A outer s H vs Q E hr h => ?_)
  · obtain ⟨g, z, m, U, sg, rfl, _⟩ := h
    rfl
  · obtain ⟨g, z, m, U, sg, rfl, hz, hG, hl2, hl100, k⟩ := h
    have hG : H g = some (.tup (sg.map V.int)) := hG
    refine ⟨_, (pss_cons (ps_set (i := 4) sc_law_valid.nd rfl (Or.inl rfl) (pe_op op_sub (pe_op op_sub (pe_callB call_len_seq (by rfl) T.len PySem.boot_len (pa_cons (pv 3) pa_nil)) pe_int) (pe_callB call_len_seq (by rfl) T.len PySem.boot_len (pa_cons (C8.pe_c c_law_digits hr (by decide) rfl (pa_cons (pv 0) (pa_cons pe_int pa_nil))) pa_nil))))
        (pss_cons (ps_if (PW.pt (pw_or (pt_not (pt_chain op_le op_le pe_int (pv 4) pe_int)) (pw_or (pt_not (pt_chain op_le op_lt pe_int (pe_ix ix_tup (pv 3) pe_int (fun _ _ => rfl)) (pe_op op_shl pe_int (pv 4)))) (pw_or1 (pt_val (pe_callB (cr_any rfl) (by rfl) T.any (by decide +kernel) (pa_cons (pe_lc (own := [("_law_word", 7)]) (g := gName 7) (tt := tYes) rfl sc_law_valid.nd (pi_tup (pe_slice sl_tup (pv 3) (po_some pe_int) po_none)) (blkOk_by (N := ["_law_width", "_law_public_here", "_law_message", "_law_signature", "_law_levels", "_law_tag", "_law_numbers", "_law_word"]) (sc := defScope s_law_valid) (by decide +kernel)) (fun _ _ _ _ _ => (pg_name (i := 7) sc_law_valid.nd rfl (by first | exact Or.inl rfl | exact Or.inr rfl))) (fun _ _ _ _ _ => pts_nil) (fun _ _ _ _ _ => (pe_not (pe_chain op_le op_lt pe_int (pv 7) (pe_op op_shl pe_int (pv 0)))))) pa_nil))))))) (pss_one (ps_ret pe_bl)) pss_nil)
        (pss_cons (ps_asg (pe_ix ix_list (C8.pe_c c_law_inputs hr (by decide) rfl (pa_cons (pv 0) (pa_cons (pv 2) (pa_cons (pv 3) pa_nil)))) (pe_op op_add (pv 4) pe_int) (fun _ _ => rfl)) (pg_tup rfl (pgs_cons (pg_name (i := 5) sc_law_valid.nd rfl (by first | exact Or.inl rfl | exact Or.inr rfl)) (pgs_cons (pg_name (i := 6) sc_law_valid.nd rfl (by first | exact Or.inl rfl | exact Or.inr rfl)) pgs_nil))))
        (pss_one (ps_ret (pe_cmpR op_eq (C8.pe_c c_law_digest hr (by decide) rfl (pa_cons (pv 0) (pa_cons (pv 5) (pa_cons (pv 6) pa_nil)))) (pv 1) (nomark _))))))), ?_⟩
    refine ⟨_, rfl, g, _, rfl, .inr (SqT.of hG), _, _, rfl, rfl, _, rfl, z, 0, rfl, hz, fun H1 p1 s1 n1 h1 => ?_⟩
    have e : (((sg.map V.int).length : Nat) : Int) - 1 - ((((digits z 0).map V.int).length : Nat) : Int) = lv z sg := by
      rw [List.length_map, List.length_map, digits_len]
      rfl
    refine ⟨p1, _, rfl, .inl (SqL.of h1), _, _, rfl, rfl, ?_⟩
    have hG1 := s1 _ _ hG
    have g0 : (sg.map V.int)[0]? = some (.int (sx sg 0)) := by
      rw [List.getElem?_map, sx_at (by omega)]
      rfl
    dsimp only
    rw [e]
    have no : ∀ {H'}, Same H H' → shapeOk z sg = false → Q (.bl false) H' := fun {H'} s' q => by
      have := k H' s'
      rw [q, Bool.false_and] at this
      exact this
    have n26 := hz.nch
    have lv99 : lv z sg ≤ 99 := by unfold lv; omega
    have h16 := hz.hi
    have h4 := hz.lo
    refine ⟨_, rfl, _, _, rfl, rfl, _, rfl, ite2 (fun a1 => ?_) (fun a1 => ?_)⟩
    · have a1 : 0 ≤ lv z sg := of_decide_eq_true a1
      refine ⟨_, _, rfl, rfl, _, rfl, ite2 (fun a2 => ?_) (fun a2 => ?_)⟩
      · refine iteT (no s1 ?_)
        have a2 : ¬ lv z sg ≤ 6 := fun q => by
          have a2 : (!decide (lv z sg ≤ 6)) = true := a2
          rw [decide_eq_true q] at a2
          cases a2
        unfold shapeOk
        rw [decide_eq_false (fun q => a2 q.2), Bool.false_and]
      · have a2 : lv z sg ≤ 6 := by
          have a2 : ¬ (!decide (lv z sg ≤ 6)) = true := a2
          simpa using a2
        refine ⟨_, rfl, g, _, ((0 : Nat) : Int), _, rfl, rfl, SqT.of hG1, atI_nat g0, _, _, rfl, rfl, _, rfl, ite2 (fun b1 => ?_) (fun b1 => ?_)⟩
        · have b1 : 0 ≤ sx sg 0 := of_decide_eq_true b1
          refine ⟨_, rfl, _, _, rfl, rfl, ⟨a1, by omega, by decide +kernel⟩, _, _, rfl, rfl, _, rfl, ite2 (fun b2 => ?_) (fun b2 => ?_)⟩
          · refine iteT (no s1 ?_)
            have b2 : (!decide (sx sg 0 < 1 * 2 ^ (lv z sg).toNat)) = true := b2
            rw [Int.one_mul] at b2
            unfold shapeOk
            rw [decide_eq_false (p := 0 ≤ sx sg 0 ∧ sx sg 0 < 2 ^ (lv z sg).toNat) (fun q => by rw [decide_eq_true q.2] at b2; cases b2), Bool.false_and, Bool.and_false]
          · have b2 : sx sg 0 < 2 ^ (lv z sg).toNat := by
              have b2 : ¬ (!decide (sx sg 0 < 1 * 2 ^ (lv z sg).toNat)) = true := b2
              rw [Int.one_mul] at b2
              simpa using b2
            refine ⟨_, rfl, _, rfl, g, _, rfl, SqT.of hG1, cut_ne (a := 1) (by decide) (by rw [List.length_map]; omega), fun p2 n2 => ?_⟩
            have ec : cutV (sg.map V.int) (some ((1 : Nat) : Int)) none = (sg.drop 1).map V.int := by
              rw [cut_tail (by rw [List.length_map]; omega), List.map_drop]
            refine ⟨p2, rfl, ⟨_, SqT.of upd_same⟩, fun D hD => ?_⟩
            refine lc_it (walk_tup (K := K) (a := p2) (xs := (sg.drop 1).map V.int)) (fun i H' => Same H H' ∧ H' p2 = some (.tup ((sg.drop 1).map V.int)) ∧ H' D = some (.lst ((((sg.drop 1).take i).map fun x => !decide (0 ≤ x ∧ x < 2 ^ z.toNat)).map V.bl)))
              ⟨(s1.trans (Same.new n2)).trans (Same.new hD), ?_, upd_same⟩ (fun i H' _ q => SqT.of q.2.1) ?_ ?_
            · rw [← ec]
              exact Same.new hD _ _ upd_same
            · rintro i x H2 H3 hi ⟨s2, h2, h3⟩ ⟨rfl, hx⟩
              obtain ⟨n, hn, rfl⟩ := int_of hx
              have hD0 : H D = none := (s1.trans (Same.new n2)).free hD
              have fin : ∀ b : Bool, b = decide (0 ≤ n ∧ n < 2 ^ z.toNat) → ∃ acc, H3 D = some (.lst acc) ∧ acc.length < sizeLine ∧ (Same H (L2.upd H3 D (.lst (acc ++ [V.bl (!b)]))) ∧ L2.upd H3 D (.lst (acc ++ [V.bl (!b)])) p2 = some (.tup ((sg.drop 1).map V.int)) ∧ L2.upd H3 D (.lst (acc ++ [V.bl (!b)])) D = some (.lst ((((sg.drop 1).take (i + 1)).map fun x => !decide (0 ≤ x ∧ x < 2 ^ z.toNat)).map V.bl))) := fun b hb => by
                subst hb
                refine ⟨_, h3, sz2 (by simp; omega), Same.put s2 hD0, ?_, ?_⟩
                · rw [upd_ne (fun q => by rw [q, h3] at h2; cases h2)]
                  exact h2
                · rw [upd_same, take_next hn, List.map_append, List.map_append]
                  rfl
              refine ⟨rfl, _, rfl, _, _, rfl, rfl, _, rfl, ite2 (fun q1 => ?_) (fun q1 => ?_)⟩
              · have q1 : 0 ≤ n := of_decide_eq_true q1
                refine ⟨_, rfl, _, _, rfl, rfl, ⟨by omega, by omega, by decide +kernel⟩, _, _, rfl, rfl, _, rfl, ?_⟩
                refine fin _ ?_
                rw [Int.one_mul]
                by_cases q : n < 2 ^ z.toNat
                · rw [decide_eq_true q, decide_eq_true ⟨q1, q⟩]
                · rw [decide_eq_false q, decide_eq_false fun y => q y.2]
              · have q1 : ¬ 0 ≤ n := fun y => q1 (decide_eq_true y)
                refine ⟨_, rfl, fin _ ?_⟩
                rw [decide_eq_false fun y => q1 y.1]
            · rintro H2 ⟨s2, _, h3⟩
              rw [List.length_map, List.take_of_length_le (Nat.le_refl _)] at h3
              have ean : (((sg.drop 1).map fun x => !decide (0 ≤ x ∧ x < 2 ^ z.toNat)).any id) = !((sg.drop 1).all fun x => decide (0 ≤ x ∧ x < 2 ^ z.toNat)) := by
                rw [List.any_map, List.not_all_eq_any_not]
                rfl
              refine ⟨D, _, rfl, SqL.of h3, _, rfl, ?_⟩
              rw [ean]
              cases c2 : ((sg.drop 1).all fun x => decide (0 ≤ x ∧ x < 2 ^ z.toNat)) with
              | false =>
                refine iteT (no s2 ?_)
                unfold shapeOk
                rw [c2, Bool.and_false, Bool.and_false]
              | true =>
                have sh : shapeOk z sg = true := by
                  unfold shapeOk
                  rw [c2, decide_eq_true ⟨a1, a2⟩, decide_eq_true ⟨b1, b2⟩]
                  rfl
                obtain ⟨len, hL6, i0, i1, hw⟩ := shape_len sh
                have elv : lv z sg + 1 = ((Ls z sg + 1 : Nat) : Int) := by
                  have := Ls_lv a1
                  omega
                refine iteF ?_
                refine ⟨_, rfl, _, rfl, _, rfl, g, z, m, sg, rfl, hz, s2 _ _ hG, sh, fun H4 v s4 r => ?_⟩
                obtain ⟨a, vs, rfl, ha, all⟩ := r
                obtain ⟨vl, hvl, r⟩ := all.get told_top
                obtain ⟨p, q, rfl, hp, hq⟩ := in1_mono Nw.to r
                refine ⟨_, rfl, _, _, rfl, rfl, a, vs, ((Ls z sg + 1 : Nat) : Int), _, rfl, congrArg V.int elv, SqL.of (Nw.to _ _ ha), atI_nat hvl, p, _, rfl, SqT.of hp, rfl, _, _, rfl, _, _, rfl, rfl, ?_⟩
                refine ⟨_, rfl, _, rfl, _, rfl, q, z, _, _, rfl, hz, .inr (SqT.of hq), ⟨by show 2 ≤ 100; decide, ?_⟩, fun H5 s5 => ?_⟩
                · intro n hn
                  have q1 : (Ls z sg : Int) < 2 ^ 128 := by rw [p128]; omega
                  simp only [List.mem_cons, List.not_mem_nil, or_false] at hn
                  rcases hn with rfl | rfl
                  · exact q1
                  · exact dig_lt _ _ _
                · refine ⟨_, rfl, rfl, ?_⟩
                  have := k _ ((s2.trans s4).trans s5)
                  rw [sh, Bool.true_and] at this
                  have e : decide (V.int (dig z 6 [(Ls z sg : Int), dig2 z (nd z (sx sg 0) m sg (Ls z sg))]) = V.int U) = decide (lastD z m sg = U) := by
                    by_cases q : lastD z m sg = U
                    · rw [decide_eq_true q]
                      exact decide_eq_true (congrArg V.int q)
                    · rw [decide_eq_false q]
                      exact decide_eq_false fun y => q (V.int.inj y)
                  show Q (V.bl (decide (V.int (dig z 6 [(Ls z sg : Int), dig2 z (nd z (sx sg 0) m sg (Ls z sg))]) = V.int U))) _
                  rw [e]
                  exact this
        · refine ⟨_, rfl, iteT (iteT (no s1 ?_))⟩
          have b1 : ¬ 0 ≤ sx sg 0 := fun q => b1 (decide_eq_true q)
          unfold shapeOk
          rw [decide_eq_false (p := 0 ≤ sx sg 0 ∧ sx sg 0 < 2 ^ (lv z sg).toNat) (fun q => b1 q.1), Bool.false_and, Bool.and_false]
    · refine ⟨_, rfl, iteT (iteT (no s1 ?_))⟩
      have a1 : ¬ 0 ≤ lv z sg := fun q => a1 (decide_eq_true q)
      unfold shapeOk
      rw [decide_eq_false (fun q => a1 q.1), Bool.false_and]
end
end K11
namespace K11
open PySem L2
section
variable {P : Program} {w : World} {K : PySem.W.Frag} {mg : Str → Option Value} {base : Heap} {CH CS : Addr} {f : Addr} {fd : FuncData}
abbrev s_law_due : Stmt := top 48
theorem sc_law_due : FnScope ["_law_width", "_law_keys_here", "_law_rows_here", "_law_signed_here", "_law_message", "_law_signature", "_law_index", "_law_told", "_law_true_here", "_law_k", "_law_digits_here", "_law_given"] ["_law_width", "_law_keys_here", "_law_rows_here", "_law_signed_here", "_law_message", "_law_signature"] (defScope s_law_due) := ⟨rfl, rfl, rfl, by decide +kernel, rfl, by decide +kernel, by decide +kernel⟩
theorem ok_law_due (F : Fun K "_law_due" "_law_due" s_law_due f fd) (T : Tx K mg CH CS) (c_law_inputs : C8.Cal P w K mg base 3 "_law_inputs" spLInputs []) (c_law_true : C8.Cal P w K mg base 1 "_law_true" spLTrue [])
    (c_law_digits : C8.Cal P w K mg base 1 "_law_digits" spDigits []) (c_law_meeting : C8.Cal P w K mg base 3 "_law_meeting" spLMeeting []) :
    FnOk P w K mg base CX0 4 f fd ["_law_width", "_law_keys_here", "_law_rows_here", "_law_signed_here", "_law_message", "_law_signature"] spLDue := by
  refine F.ok sc_law_due (fun vs H Q E h => ?_) (fun cdv A outer s H vs Q E hr h => ?_)
  · obtain ⟨d, g, z, y, m, L, sd, sg, vk, vr, rfl, _⟩ := h
    rfl
  · obtain ⟨d, g, z, y, m, L, sd, sg, vk, vr, rfl, hz, hL, kk, rr, hd, hG', hv, k⟩ := h
    have hG : H g = some (.tup (sg.map V.int)) := hG'
    have hd : H d = some (.dK (sd.map fun e => (Sum.inl e.1, V.int e.2))) := hd
    obtain ⟨ak, ks, rfl, hak, allk⟩ := id kk
    obtain ⟨ar, rs, rfl, har, allr⟩ := id rr
    have VV := Valid.of hv
    have sh : shapeOk z sg = true := by
      unfold validB at hv
      exact (Bool.and_eq_true_iff.mp hv).1
    obtain ⟨len, hL6, i0, i1, hw⟩ := shape_len sh
    have n26 := hz.nch
    have l64 := two_le6 hL
    have hklen : ks.length = 2 ^ L := by rw [allk.len]; simp [keysL]
    obtain ⟨i, em, hiL⟩ := mn_nat (L := L) i0
    have em' : (if ((2 ^ L : Nat) : Int) - 1 < sx sg 0 then ((2 ^ L : Nat) : Int) - 1 else sx sg 0) = (i : Int) := by
      rw [← em, mn, PySem.W.kbt_cast]
    have at_ : ∀ {j : Nat}, j < sg.length → (sg.map V.int)[j]? = some (.int (sx sg j)) := fun {j} hj => by
      rw [List.getElem?_map, sx_at hj]
      rfl
    obtain ⟨t, et⟩ : ∃ t : Nat → Nat, ∀ j, dgt z m j = (t j : Int) := ⟨fun j => (dgt z m j).toNat, fun j => (Int.toNat_of_nonneg (dgt_le (w := z) (m := m) j).1).symm⟩
    have t15 : ∀ j, t j ≤ 15 := fun j => by have := dgt_le (w := z) (m := m) j; have := et j; omega
    have hgd : ∀ {j : Nat}, j < nch z → ((digits z m).map V.int)[j]? = some (.int (t j : Int)) := fun {j} hj => by
      rw [List.getElem?_map, dgt_mem hj, ← et]
      rfl
    have xn : ∀ j, Nn (sx sg (1 + j)) := fun j => by
      rw [Nat.add_comm 1 j]
      have := sx_word hw hz j
      exact .of this.1 (by omega)
    refine ⟨_, (pss_cons (ps_set (i := 6) sc_law_due.nd rfl (Or.inl rfl) (pe_callB (call_min2 rfl) (by rfl) T.min (by decide +kernel) (pa_cons (pe_ix ix_tup (pv 5) pe_int (fun _ _ => rfl)) (pa_cons (pe_op op_sub (pe_callB call_len_seq (by rfl) T.len PySem.boot_len (pa_cons (pv 1) pa_nil)) pe_int) pa_nil))))
        (pss_cons (ps_set (i := 7) sc_law_due.nd rfl (Or.inl rfl) (pe_revL (C8.pe_c c_law_inputs hr (by decide) rfl (pa_cons (pv 0) (pa_cons (pv 4) (pa_cons (pv 5) pa_nil))))))
        (pss_cons (ps_set (i := 8) sc_law_due.nd rfl (Or.inl rfl) (pe_revL (C8.pe_c c_law_true hr (by decide) rfl (pa_cons (pv 0) (pa_cons (pv 1) (pa_cons (pv 2) (pa_cons (pv 6) pa_nil)))))))
        (pss_cons (ps_for PassesOwn.never rfl (pi_range1 rfl T.range (pa_cons (pe_callB (call_min2 rfl) (by rfl) T.min (by decide +kernel) (pa_cons (pe_callB call_len_seq (by rfl) T.len PySem.boot_len (pa_cons (pv 7) pa_nil)) (pa_cons (pe_callB call_len_seq (by rfl) T.len PySem.boot_len (pa_cons (pv 8) pa_nil)) pa_nil))) pa_nil)) (pg_name (i := 9) sc_law_due.nd rfl (by first | exact Or.inl rfl | exact Or.inr rfl))
          (pss_one (ps_if (pt_cmpR (op_neD hr.units) (pe_ix ix_list (pv 7) (pv 9) (fun _ _ => rfl)) (pe_ix ix_list (pv 8) (pv 9) (fun _ _ => rfl)) (nomark _)) (pss_one (ps_ret (pe_tup (pa_cons pe_str (pa_cons (pe_ix ix_list (pv 8) (pv 9) (fun _ _ => rfl)) (pa_cons (pe_ix ix_list (pv 7) (pv 9) (fun _ _ => rfl)) pa_nil)))))) pss_nil)))
        (pss_cons (ps_set (i := 10) sc_law_due.nd rfl (Or.inl rfl) (C8.pe_c c_law_digits hr (by decide) rfl (pa_cons (pv 0) (pa_cons (pv 4) pa_nil))))
        (pss_cons (ps_for PassesOwn.never rfl (pi_range1 rfl T.range (pa_cons (pe_callB call_len_seq (by rfl) T.len PySem.boot_len (pa_cons (pv 10) pa_nil)) pa_nil)) (pg_name (i := 9) sc_law_due.nd rfl (by first | exact Or.inl rfl | exact Or.inr rfl))
          (pss_one (ps_if (pt_cmpR op_ne (pe_ix ix_tup (pv 5) (pe_op op_add pe_int (pv 9)) (fun _ _ => rfl)) (pe_ix ix_list (pe_ix ix_list (pe_ix ix_list (pv 1) (pv 6) (fun _ _ => rfl)) (pv 9) (fun _ _ => rfl)) (pe_ix ix_list (pv 10) (pv 9) (fun _ _ => rfl)) (fun _ _ => rfl)) (nomark _)) (pss_one (ps_ret (C8.pe_c c_law_meeting hr (by decide) rfl (pa_cons (pv 0) (pa_cons (pv 1) (pa_cons (pv 6) (pa_cons (pv 9) (pa_cons (pe_ix ix_list (pv 10) (pv 9) (fun _ _ => rfl)) (pa_cons (pe_ix ix_tup (pv 5) (pe_op op_add pe_int (pv 9)) (fun _ _ => rfl)) pa_nil))))))))) pss_nil)))
        (pss_cons (ps_set (i := 11) sc_law_due.nd rfl (Or.inl rfl) (pe_op op_rep (pe_lst (pa_cons pe_int pa_nil)) (pe_callB call_len_seq (by rfl) T.len PySem.boot_len (pa_cons (pv 10) pa_nil))))
        (pss_cons (ps_if (pt_cmp (pc_din (hu_of hr) (pv 6) (pv 3))) (pss_one (ps_set (i := 11) sc_law_due.nd rfl (Or.inl rfl) (C8.pe_c c_law_digits hr (by decide) rfl (pa_cons (pv 0) (pa_cons (pe_dget (hu_of hr) (pv 3) (pv 6) (fun _ _ => rfl)) pa_nil))))) pss_nil)
        (pss_cons (ps_for PassesOwn.never rfl (pi_range1 rfl T.range (pa_cons (pe_callB call_len_seq (by rfl) T.len PySem.boot_len (pa_cons (pv 10) pa_nil)) pa_nil)) (pg_name (i := 9) sc_law_due.nd rfl (by first | exact Or.inl rfl | exact Or.inr rfl))
          (pss_one (ps_if (pt_cmpR op_lt (pe_ix ix_list (pv 10) (pv 9) (fun _ _ => rfl)) (pe_ix ix_list (pv 11) (pv 9) (fun _ _ => rfl)) (nomark _)) (pss_one (ps_ret (pe_tup (pa_cons pe_str (pa_cons (pv 6) (pa_cons (pv 9) (pa_cons (pe_ix ix_list (pv 10) (pv 9) (fun _ _ => rfl)) (pa_cons (pe_ix ix_tup (pv 5) (pe_op op_add pe_int (pv 9)) (fun _ _ => rfl)) pa_nil)))))))) pss_nil)))
        (pss_one (ps_ret pe_non))))))))))), ?_⟩
    refine ⟨_, rfl, g, _, ((0 : Nat) : Int), _, rfl, rfl, SqT.of hG, atI_nat (at_ (by omega)), _, rfl, ak, _, rfl, .inl (SqL.of hak), _, _, rfl, rfl, sx sg 0, ((2 ^ L : Nat) : Int) - 1, congrArg (fun q => [V.int (sx sg 0), V.int (((q : Nat) : Int) - 1)]) hklen, ?_⟩
    rw [em']
    refine ⟨_, rfl, _, rfl, _, rfl, g, z, m, sg, rfl, hz, hG, sh, fun H2 v s2 r => ?_⟩
    obtain ⟨a, vs, rfl, ha, all⟩ := r
    refine ⟨a, vs, rfl, SqL.of (Nw.to _ _ ha), fun t1 n1 => ?_⟩
    have all : All2 (In1 H2) vs.reverse (told z m sg).reverse := (all.mono fun v x q => in1_mono Nw.to q).rev
    obtain ⟨H3, e3⟩ : ∃ H3, H3 = upd H2 t1 (.lst vs.reverse) := ⟨_, rfl⟩
    have s23 : Same H2 H3 := by rw [e3]; exact Same.new n1
    have h3 : H3 t1 = some (.lst vs.reverse) := by rw [e3]; exact upd_same
    rw [← e3]
    clear e3 n1 ha
    have s03 := s2.trans s23
    refine ⟨_, rfl, _, rfl, _, rfl, _, rfl, z, y, L, i, _, _, rfl, hz, hL, hiL, keys_mono s03 kk, rows_mono s03 rr, fun H4 v s4 r => ?_⟩
    obtain ⟨a', ws, rfl, ha', all'⟩ := r
    refine ⟨a', ws, rfl, SqL.of (Nw.to _ _ ha'), fun t2 n2 => ?_⟩
    have all' : All2 (In1 H4) ws.reverse (tru z y L (mn sg L)).reverse := by
      rw [em]
      exact (all'.mono fun v x q => in1_mono Nw.to q).rev
    obtain ⟨H5, e5⟩ : ∃ H5, H5 = upd H4 t2 (.lst ws.reverse) := ⟨_, rfl⟩
    have s45 : Same H4 H5 := by rw [e5]; exact Same.new n2
    have h52 : H5 t2 = some (.lst ws.reverse) := by rw [e5]; exact upd_same
    rw [← e5]
    clear e5 n2 ha'
    have s35 := s4.trans s45
    have s05 := s03.trans s35
    have all := all.mono fun v x q => in1_mono (s23.trans s35) q
    have all' := all'.mono fun v x q => in1_mono s45 q
    have h51 := s35 _ _ h3
    generalize hA : (told z m sg).reverse = A at *
    generalize hB : (tru z y L (mn sg L)).reverse = B at *
    have lA : A.length = Ls z sg + 2 := by rw [← hA, List.length_reverse, told_len]
    have lB : B.length = L + 2 := by rw [← hB, List.length_reverse, tru_len]
    have ej : (if ((ws.reverse.length : Nat) : Int) < ((vs.reverse.length : Nat) : Int) then ((ws.reverse.length : Nat) : Int) else ((vs.reverse.length : Nat) : Int)) = ((min A.length B.length : Nat) : Int) := by
      rw [all.len, all'.len]
      split <;> omega
    refine ⟨_, rfl, t1, _, rfl, .inl (SqL.of h51), _, rfl, t2, _, rfl, .inl (SqL.of h52), _, _, rfl, ((min A.length B.length : Nat) : Int), congrArg (fun q => [V.int q]) ej, (n62 (by omega)).1, (n62 (by omega)).2, ?_⟩
    refine for_it (walk_rng (n := ((min A.length B.length : Nat) : Int).toNat)) (fun t' σ H' => Same H5 H' ∧ (∃ v, σ = [some (.int z), some (.ref ak), some (.ref ar), some (.ref d), some (.int m), some (.ref g), some (.int i), some (.ref t1), some (.ref t2), v, none, none]) ∧ ∀ j, j < t' → A[j]? = B[j]?)
      ⟨Same.refl _, ⟨none, rfl⟩, fun j hj => by omega⟩ tr3 ?_ ?_
    · rintro t' x σ H6 H7 ht ⟨s6, ⟨v, rfl⟩, same⟩ ⟨rfl, rfl⟩
      have ht : t' < min A.length B.length := ht
      have eA : A[t']? = some A[t'] := List.getElem?_eq_getElem (by omega)
      have eB : B[t']? = some B[t'] := List.getElem?_eq_getElem (by omega)
      obtain ⟨v1, hv1, r1⟩ := all.get eA
      obtain ⟨v2, hv2, r2⟩ := all'.get eB
      have r1 := in1_mono s6 r1
      have r2 := in1_mono s6 r2
      have h61 := s6 _ _ h51
      have h62 := s6 _ _ h52
      refine ⟨_, rfl, _, rfl, t1, _, ((t' : Nat) : Int), _, rfl, rfl, SqL.of h61, atI_nat hv1, _, rfl, _, rfl, t2, _, ((t' : Nat) : Int), _, rfl, rfl, SqL.of h62, atI_nat hv2, dIn A[t'], dIn B[t'], r1.dp, r2.dp, sh_in _, sh_in _, _, rfl, ?_⟩
      rw [eq_in]
      refine ite2 (fun e => ?_) (fun e => ?_)
      · have e : A[t'] ≠ B[t'] := fun q => by
          rw [decide_eq_true q] at e
          cases e
        have ed : due z y L sd m sg = .coll B[t'] A[t'] := by
          unfold due
          rw [hA, hB, firstD_some same eA eB e]
        rw [ed] at k
        refine ⟨_, rfl, _, rfl, t2, _, ((t' : Nat) : Int), _, rfl, rfl, SqL.of h62, atI_nat hv2, _, rfl, _, rfl, t1, _, ((t' : Nat) : Int), _, rfl, rfl, SqL.of h61, atI_nat hv1, by show 3 ≤ sizeLine; decide, fun u nu => ?_⟩
        exact k _ _ ((s05.trans s6).trans (Same.new nu)) ⟨u, v2, v1, rfl, upd_same, in1_mono (Same.new nu) r2, in1_mono (Same.new nu) r1⟩
      · have e : A[t'] = B[t'] := by simpa using e
        refine ⟨s6, ⟨_, rfl⟩, fun j hj => ?_⟩
        by_cases q : j < t'
        · exact same j q
        · rw [show j = t' by omega, eA, eB, e]
    rintro σ H6 ⟨s6, ⟨v, rfl⟩, same⟩
    have fn : firstD A B = none := firstD_none same
    have ed : due z y L sd m sg = chb z y sd m sg := by
      unfold due
      rw [hA, hB, fn]
    rw [ed] at k
    have fn' : firstD (told z m sg).reverse (tru z y L (mn sg L)).reverse = none := by rw [hA, hB]; exact fn
    obtain ⟨_, eM, _⟩ := same_of hz hL VV fn'
    have ei : sx sg 0 = (i : Int) := by rw [← eM, em]
    have s06 := s05.trans s6
    clear hA hB lA lB ej fn fn' same all all' h51 h52 s35 s45 s4 s03 s23 s2 h3 em em' s05 s6 ed
    obtain ⟨v1, hv1, a1, w1, rfl, ha1, al1⟩ := allk.get (rng_at (g := fun (i : Nat) => keyL z y i) hiL)
    have ec1 : ∀ c : Nat, (1 : Int) + (c : Int) = ((1 + c : Nat) : Int) := fun c => by omega
    refine ⟨_, rfl, _, rfl, z, m, rfl, hz, fun H1 q s1 n1 h1 => ?_⟩
    have s01 := s06.trans s1
    clear s1 n1
    refine ⟨_, rfl, q, _, rfl, .inl (SqL.of h1), (nch z : Int), by rw [List.length_map, digits_len], (n62 (by omega)).1, (n62 (by omega)).2, ?_⟩
    refine for_it (walk_rng (n := ((nch z : Nat) : Int).toNat)) (fun c σ H' => Same H1 H' ∧ (∃ v, σ = [some (.int z), some (.ref ak), some (.ref ar), some (.ref d), some (.int m), some (.ref g), some (.int i), some (.ref t1), some (.ref t2), v, some (.ref q), none]) ∧ ∀ j, j < c → sx sg (1 + j) = wd z y i j (t j))
      ⟨Same.refl _, ⟨_, rfl⟩, fun j hj => by omega⟩ tr3 ?_ ?_
    · rintro c x σ H2 H3 hc ⟨s2, ⟨v, rfl⟩, all⟩ ⟨rfl, rfl⟩
      have hc : c < nch z := hc
      have s02 := s01.trans s2
      have hG2 := s02 _ _ hG
      have h12 := s2 _ _ h1
      obtain ⟨v2, hv2, a2, rfl, ha2⟩ := al1.get (rng_at (g := fun (c : Nat) => chainL z y i c) hc)
      have hv3 : ((chainL z y i c).map V.int)[t c]? = some (.int (wd z y i c (t c))) := by
        rw [chainL, List.getElem?_map, rng_at (by have := t15 c; omega)]
        rfl
      refine ⟨_, rfl, _, rfl, _, _, rfl, rfl, g, _, ((1 + c : Nat) : Int), _, rfl, congrArg V.int (ec1 c), SqT.of hG2, atI_nat (at_ (by omega)), ?_⟩
      refine ⟨_, rfl, _, rfl, ak, ks, ((i : Nat) : Int), _, rfl, rfl, SqL.of (s02 _ _ hak), atI_nat hv1, _, rfl, a1, w1, ((c : Nat) : Int), _, rfl, rfl, SqL.of (s02 _ _ ha1), atI_nat hv2, _, rfl, _, rfl, q, _, ((c : Nat) : Int), _, rfl, rfl, SqL.of h12, atI_nat (hgd hc), a2, _, ((t c : Nat) : Int), _, rfl, rfl, SqL.of (s02 _ _ ha2), atI_nat hv3, rfl, _, rfl, ite2 (fun e => ?_) (fun e => ?_)⟩
      · have e : sx sg (1 + c) ≠ wd z y i c (t c) := fun q => by
          have e : (!decide (V.int (sx sg (1 + c)) = V.int (wd z y i c (t c)))) = true := e
          rw [decide_eq_true (congrArg V.int q)] at e
          cases e
        have ec : chb z y sd m sg = meet z y i c (t c : Int) (sx sg (1 + c)) := by
          unfold chb
          rw [find_some hc (decide_eq_true (by rw [ei, et]; exact e)) fun j hj => decide_eq_false (by rw [ei, et]; exact fun q => q (all j hj))]
          show meet z y (sx sg 0) c (dgt z m c) (sx sg (1 + c)) = _
          rw [ei, et]
        rw [ec] at k
        refine ⟨_, rfl, _, rfl, _, rfl, _, rfl, _, rfl, _, rfl, q, _, ((c : Nat) : Int), _, rfl, rfl, SqL.of h12, atI_nat (hgd hc), _, rfl, _, rfl, _, _, rfl, rfl, g, _, ((1 + c : Nat) : Int), _, rfl, congrArg V.int (ec1 c), SqT.of hG2, atI_nat (at_ (by omega)), ?_⟩
        exact ⟨z, y, t c, sx sg (1 + c), L, i, c, _, rfl, hz, hL, hiL, hc, Int.natCast_nonneg _, by have := t15 c; omega, xn c, keys_mono s02 kk, fun H5 v s5 r => k _ _ (s02.trans s5) r⟩
      · have e : sx sg (1 + c) = wd z y i c (t c) := by
          have e : ¬ (!decide (V.int (sx sg (1 + c)) = V.int (wd z y i c (t c)))) = true := e
          exact V.int.inj (by simpa using e)
        refine ⟨s2, ⟨_, rfl⟩, fun j hj => ?_⟩
        by_cases q : j < c
        · exact all j q
        · rw [show j = c by omega]
          exact e
    · rintro σ H2 ⟨s2, ⟨v, rfl⟩, all⟩
      have all : ∀ j, j < nch z → sx sg (1 + j) = wd z y i j (t j) := all
      have ec : chb z y sd m sg = match (List.range (nch z)).find? (fun (c : Nat) => decide (dgt z m c < given z sd (sx sg 0) c)) with
          | some c => Ans.found (sx sg 0) c (dgt z m c) (sx sg (1 + c))
          | none => .non := by
        unfold chb
        rw [find_none fun j hj => decide_eq_false (by rw [ei, et]; exact fun q => q (all j hj))]
        try rfl
      have s02 := s01.trans s2
      have h12 := s2 _ _ h1
      have el : ((((digits z m).map V.int).length : Nat) : Int) = (nch z : Int) := by rw [List.length_map, digits_len]
      have n6 : (nch z : Int).toNat = nch z := rfl
      refine ⟨by show 1 ≤ sizeLine; decide, fun p1 n1' => ?_⟩
      refine ⟨_, rfl, q, _, rfl, .inl (SqL.of (Same.new n1' _ _ h12)), p1, (nch z : Int), _, rfl, congrArg V.int el, upd_same, by have := (n62 (n := nch z) (by omega)).1; omega, by have := (n62 (n := nch z) (by omega)).2; omega, sz1 (by simp; omega), fun p2 n2' => ?_⟩
      rw [n6, rep_flat, given_rep]
      obtain ⟨H3, e3⟩ : ∃ H3, H3 = upd (upd H2 p1 (.lst [.int 16])) p2 (.lst (((List.range (nch z)).map fun _ => (16 : Int)).map V.int)) := ⟨_, rfl⟩
      have s23 : Same H2 H3 := by rw [e3]; exact (Same.new n1').trans (Same.new n2')
      have h3 : H3 p2 = some (.lst (((List.range (nch z)).map fun _ => (16 : Int)).map V.int)) := by rw [e3]; exact upd_same
      rw [← e3]
      clear e3 n1' n2'
      have s03 := s02.trans s23
      refine ⟨_, rfl, _, rfl, d, _, rfl, DGet.k (k := Sum.inl (i : Int)) (s03 _ _ hd), _, rfl, ?_⟩
      rw [valV_sd]
      cases hl : sd.lookup (i : Int) with
      | none =>
        have gv : ∀ c, given z sd (sx sg 0) c = 16 := fun c => by
          unfold given
          rw [ei, hl]
        refine iteF ?_
        refine ⟨_, rfl, q, _, rfl, .inl (SqL.of (s23 _ _ h12)), (nch z : Int), by rw [el], (n62 (by omega)).1, (n62 (by omega)).2, ?_⟩
        refine for_it (walk_rng (n := ((nch z : Nat) : Int).toNat)) (fun c σ H' => Same H3 H' ∧ (∃ v, σ = [some (.int z), some (.ref ak), some (.ref ar), some (.ref d), some (.int m), some (.ref g), some (.int i), some (.ref t1), some (.ref t2), v, some (.ref q), some (.ref p2)]) ∧ ∀ j, j < c → ¬ dgt z m j < given z sd (sx sg 0) j)
          ⟨Same.refl _, ⟨_, rfl⟩, fun j hj => by omega⟩ tr3 ?_ ?_
        · rintro c x σ Ha Hb hc ⟨sa, ⟨v, rfl⟩, no⟩ ⟨rfl, rfl⟩
          have hc : c < nch z := hc
          have s0a := s03.trans sa
          have qa := sa _ _ (s23 _ _ h12)
          have hgv : (((List.range (nch z)).map fun _ => (16 : Int)).map V.int)[c]? = some (.int (given z sd (sx sg 0) c)) := by
            rw [gv, List.getElem?_map, rng_at hc]
            rfl
          refine ⟨_, rfl, _, rfl, q, _, ((c : Nat) : Int), _, rfl, rfl, SqL.of qa, atI_nat (hgd hc), _, rfl, _, rfl, p2, _, ((c : Nat) : Int), _, rfl, rfl, SqL.of (sa _ _ h3), atI_nat hgv, _, _, rfl, rfl, _, rfl, ite2 (fun e => ?_) (fun e => ?_)⟩
          · have e : (t c : Int) < given z sd (sx sg 0) c := of_decide_eq_true e
            have ec2 : chb z y sd m sg = .found (i : Int) c (t c : Int) (sx sg (1 + c)) := by
              rw [ec, find_some hc (decide_eq_true (by rw [et]; exact e)) fun j hj => decide_eq_false (no j hj)]
              show Ans.found (sx sg 0) c (dgt z m c) (sx sg (1 + c)) = _
              rw [ei, et]
            rw [ec2] at k
            refine ⟨_, rfl, _, rfl, _, rfl, _, rfl, q, _, ((c : Nat) : Int), _, rfl, rfl, SqL.of qa, atI_nat (hgd hc), _, rfl, _, rfl, _, _, rfl, rfl, g, _, ((1 + c : Nat) : Int), _, rfl, congrArg V.int (ec1 c), SqT.of (s0a _ _ hG), atI_nat (at_ (by omega)), by show 5 ≤ sizeLine; decide, fun u nu => ?_⟩
            exact k _ _ (s0a.trans (Same.new nu)) ⟨u, rfl, upd_same⟩
          · have e : ¬ dgt z m c < given z sd (sx sg 0) c := fun q => e (decide_eq_true (by rw [et] at q; exact q))
            refine ⟨sa, ⟨_, rfl⟩, fun j hj => ?_⟩
            by_cases q : j < c
            · exact no j q
            · rw [show j = c by omega]
              exact e
        · rintro σ Ha ⟨sa, ⟨v, rfl⟩, no⟩
          have no : ∀ j, j < nch z → ¬ dgt z m j < given z sd (sx sg 0) j := no
          have ec2 : chb z y sd m sg = .non := by
            rw [ec, find_none fun j hj => decide_eq_false (no j hj)]
          rw [ec2] at k
          exact k _ _ (s03.trans sa) rfl
      | some m' =>
        have gv : ∀ c, given z sd (sx sg 0) c = dgt z m' c := fun c => by
          unfold given
          rw [ei, hl]
        refine iteT ?_
        refine ⟨_, rfl, _, rfl, _, rfl, d, .int m', rfl, ?_, z, m', rfl, hz, fun H4 p4 s4 n4 h4 => ?_⟩
        · have := DGet.k (k := Sum.inl (i : Int)) (s03 _ _ hd)
          rw [valV_sd, hl] at this
          exact this
        refine ⟨_, rfl, q, _, rfl, .inl (SqL.of (s4 _ _ (s23 _ _ h12))), (nch z : Int), by rw [el], (n62 (by omega)).1, (n62 (by omega)).2, ?_⟩
        refine for_it (walk_rng (n := ((nch z : Nat) : Int).toNat)) (fun c σ H' => Same H4 H' ∧ (∃ v, σ = [some (.int z), some (.ref ak), some (.ref ar), some (.ref d), some (.int m), some (.ref g), some (.int i), some (.ref t1), some (.ref t2), v, some (.ref q), some (.ref p4)]) ∧ ∀ j, j < c → ¬ dgt z m j < given z sd (sx sg 0) j)
          ⟨Same.refl _, ⟨_, rfl⟩, fun j hj => by omega⟩ tr3 ?_ ?_
        · rintro c x σ Ha Hb hc ⟨sa, ⟨v, rfl⟩, no⟩ ⟨rfl, rfl⟩
          have hc : c < nch z := hc
          have s0a := (s03.trans s4).trans sa
          have qa := sa _ _ (s4 _ _ (s23 _ _ h12))
          have hgv : ((digits z m').map V.int)[c]? = some (.int (given z sd (sx sg 0) c)) := by
            rw [gv, List.getElem?_map, dgt_mem hc]
            rfl
          refine ⟨_, rfl, _, rfl, q, _, ((c : Nat) : Int), _, rfl, rfl, SqL.of qa, atI_nat (hgd hc), _, rfl, _, rfl, p4, _, ((c : Nat) : Int), _, rfl, rfl, SqL.of (sa _ _ h4), atI_nat hgv, _, _, rfl, rfl, _, rfl, ite2 (fun e => ?_) (fun e => ?_)⟩
          · have e : (t c : Int) < given z sd (sx sg 0) c := of_decide_eq_true e
            have ec2 : chb z y sd m sg = .found (i : Int) c (t c : Int) (sx sg (1 + c)) := by
              rw [ec, find_some hc (decide_eq_true (by rw [et]; exact e)) fun j hj => decide_eq_false (no j hj)]
              show Ans.found (sx sg 0) c (dgt z m c) (sx sg (1 + c)) = _
              rw [ei, et]
            rw [ec2] at k
            refine ⟨_, rfl, _, rfl, _, rfl, _, rfl, q, _, ((c : Nat) : Int), _, rfl, rfl, SqL.of qa, atI_nat (hgd hc), _, rfl, _, rfl, _, _, rfl, rfl, g, _, ((1 + c : Nat) : Int), _, rfl, congrArg V.int (ec1 c), SqT.of (s0a _ _ hG), atI_nat (at_ (by omega)), by show 5 ≤ sizeLine; decide, fun u nu => ?_⟩
            exact k _ _ (s0a.trans (Same.new nu)) ⟨u, rfl, upd_same⟩
          · have e : ¬ dgt z m c < given z sd (sx sg 0) c := fun q => e (decide_eq_true (by rw [et] at q; exact q))
            refine ⟨sa, ⟨_, rfl⟩, fun j hj => ?_⟩
            by_cases q : j < c
            · exact no j q
            · rw [show j = c by omega]
              exact e
        · rintro σ Ha ⟨sa, ⟨v, rfl⟩, no⟩
          have no : ∀ j, j < nch z → ¬ dgt z m j < given z sd (sx sg 0) j := no
          have ec2 : chb z y sd m sg = .non := by
            rw [ec, find_none fun j hj => decide_eq_false (no j hj)]
          rw [ec2] at k
          exact k _ _ ((s03.trans s4).trans sa) rfl
end
end K11
namespace K11
open PySem L2
section
variable {P : Program} {w : World} {K : PySem.W.Frag} {mg : Str → Option Value} {base : Heap} {CH CS : Addr} {f : Addr} {fd : FuncData}
theorem upd_id {H : Hp} {a : Addr} {o : HO} (h : H a = some o) : upd H a o = H := by
  funext b
  by_cases e : b = a
  · rw [e, upd_same, h]
  · rw [upd_ne e]
theorem sqL_upd {H : Hp} {a b : Addr} {o : HO} {xs : List V} (h : SqL K H b xs) (ne : Off K a b xs) : SqL K (upd H a o) b xs := by
  rcases ne with ne | ne
  case inr => exact ne _
  rcases h with (h | ⟨u, h⟩) | h
  · exact .inl (.inl (by rw [upd_ne ne]; exact h))
  · exact .inl (.inr ⟨u, by rw [upd_ne ne]; exact h⟩)
  · exact .inr h
abbrev s_law_draw : Stmt := top 34
theorem sc_law_draw : FnScope ["_law_state", "_law_script", "_law_size", "_law_cell", "_law_mixed", "_law_digit"] ["_law_state", "_law_script", "_law_size"] (defScope s_law_draw) := ⟨rfl, rfl, rfl, by decide +kernel, rfl, by decide +kernel, by decide +kernel⟩
theorem ok_law_draw (F : Fun K "_law_draw" "_law_draw" s_law_draw f fd) (T : Tx K mg CH CS) : FnOk P w K mg base CX0 1 f fd ["_law_state", "_law_script", "_law_size"] (spDraw K) := by
  refine F.ok sc_law_draw (fun vs H Q E h => ?_) (fun cdv A outer s H vs Q E hr h => ?_)
  · obtain ⟨a, b, i, z, n, ns, rfl, _⟩ := h
    rfl
  · obtain ⟨a, b, i, z, n, ns, rfl, hA, hB, h63, ne, n0, n1, k⟩ := h
    have hA : H a = some (.lst [.int i, .int z]) := hA
    refine ⟨_, (C8.pss_cut (ps_if (pt_cmpR op_eq (pe_ix ix_list (pv 0) pe_int (fun _ _ => rfl)) pe_int (nomark _)) (pss_cons (ps_set (i := 3) sc_law_draw.nd rfl (Or.inl rfl) pe_int)
        (C8.pss_cut (ps_if (pt_cmpR op_gt (pe_callB call_len_seq (by rfl) T.len PySem.boot_len (pa_cons (pv 1) pa_nil)) pe_int (nomark _)) (pss_one (ps_set (i := 3) sc_law_draw.nd rfl (Or.inl rfl) (pe_ix ix_list (pv 1) (pe_op op_mod (pe_ix ix_list (pv 0) pe_int (fun _ _ => rfl)) (pe_callB call_len_seq (by rfl) T.len PySem.boot_len (pa_cons (pv 1) pa_nil))) (fun _ _ => rfl)))) pss_nil)
        (C8.pss_cut (ps_if (pt_cmpR op_lt (pv 3) pe_int (nomark _)) (pss_one (ps_set (i := 3) sc_law_draw.nd rfl (Or.inl rfl) (pe_op op_sub pe_int (pe_op op_mul pe_int (pv 3))))) pss_nil)
        (pss_cons (ps_set (i := 4) sc_law_draw.nd rfl (Or.inl rfl) (pe_op op_mod (pe_callTy call_int1 (by rfl) T.int (by decide +kernel) (pa_cons (pe_op op_mul (pe_op op_add (pe_op op_add (pv 3) (pe_op op_mul (pe_ix ix_list (pv 0) pe_int (fun _ _ => rfl)) pe_int)) pe_int) pe_int) pa_nil)) pe_int))
        (pss_cons (ps_asg (pe_op op_mod (pe_callTy call_int1 (by rfl) T.int (by decide +kernel) (pa_cons (pe_op op_add (pe_op op_mul (pv 4) pe_int) (pe_op op_mul (pe_ix ix_list (pv 0) pe_int (fun _ _ => rfl)) pe_int)) pa_nil)) pe_int) (pg_sub (pv 0) pe_int set_list))
        (C8.pss_cut (ps_if (PW.pt (pw_and (pt_cmpR op_ge (pv 3) (pe_op op_pow pe_int pe_int) (nomark _)) (pw_and1 (pt_cmpR op_lt (pe_ix ix_list (pv 0) pe_int (fun _ _ => rfl)) (pe_callB call_len_seq (by rfl) T.len PySem.boot_len (pa_cons (pv 1) pa_nil)) (nomark _))))) (pss_one (ps_asg (pv 3) (pg_sub (pv 0) pe_int set_list))) pss_nil)
        (pss_one (ps_asg (pe_op op_add (pe_ix ix_list (pv 0) pe_int (fun _ _ => rfl)) pe_int) (pg_sub (pv 0) pe_int set_list))))))))) pss_nil)
        (pss_cons (ps_set (i := 5) sc_law_draw.nd rfl (Or.inl rfl) (pe_op op_mod (pe_callTy call_int1 (by rfl) T.int (by decide +kernel) (pa_cons (pe_ix ix_list (pv 0) pe_int (fun _ _ => rfl)) pa_nil)) (pv 2)))
        (pss_cons (ps_asg (pe_op op_fdiv (pe_ix ix_list (pv 0) pe_int (fun _ _ => rfl)) (pv 2)) (pg_sub (pv 0) pe_int set_list))
        (pss_one (ps_ret (pv 5)))))), ?_⟩
    refine ⟨fun σ H' => ∃ i' z' v3 v4, σ = [some (.ref a), some (.ref b), some (.int n), v3, v4, none] ∧ H' = upd H a (.lst [.int i', .int z']), ?_, ?_⟩
    · refine ⟨_, rfl, a, _, ((1 : Nat) : Int), _, rfl, rfl, SqL.of hA, atI_nat rfl, rfl, _, rfl, ite2 (fun c => ?_) (fun c => ?_)⟩
      · refine ⟨fun σ H' => ∃ c, σ = [some (.ref a), some (.ref b), some (.int n), some (.int c), none, none] ∧ H = H', ?_, ?_⟩
        · refine ⟨_, rfl, b, _, rfl, .inl hB, _, _, rfl, rfl, _, rfl, ite2 (fun c => ?_) (fun c => ?_)⟩
          · have c : (0 : Int) < (((ns.map V.int).length : Nat) : Int) := of_decide_eq_true c
            rw [List.length_map] at c
            obtain ⟨j, ej, hj⟩ : ∃ j : Nat, i % (((ns.map V.int).length : Nat) : Int) = (j : Int) ∧ j < ns.length := by
              rw [List.length_map]
              have h1 := Int.emod_nonneg i (show ((ns.length : Nat) : Int) ≠ 0 by omega)
              have h2 := Int.emod_lt_of_pos i c
              exact ⟨(i % ((ns.length : Nat) : Int)).toNat, by omega, by omega⟩
            have hv : (ns.map V.int)[j]? = some (.int ns[j]) := by
              rw [List.getElem?_map, List.getElem?_eq_getElem hj]
              rfl
            refine ⟨_, rfl, _, rfl, a, _, ((0 : Nat) : Int), _, rfl, rfl, SqL.of hA, atI_nat rfl, _, rfl, b, _, rfl, .inl hB, _, _, rfl, rfl, ?_, b, _, ((j : Nat) : Int), _, rfl, congrArg V.int ej, hB, atI_nat hv, ?_⟩
            · rw [List.length_map]
              exact c
            · exact ⟨_, rfl, rfl⟩
          · exact ⟨_, rfl, rfl⟩
        · rintro σ H' ⟨c, rfl, rfl⟩
          refine ⟨fun σ H' => ∃ c, σ = [some (.ref a), some (.ref b), some (.int n), some (.int c), none, none] ∧ H = H', ?_, ?_⟩
          · refine ⟨_, rfl, _, _, rfl, rfl, _, rfl, ite2 (fun c => ?_) (fun c => ?_)⟩
            · refine ⟨_, rfl, _, _, rfl, rfl, .inl ⟨by decide +kernel, by decide +kernel⟩, _, _, rfl, rfl, ?_⟩
              exact ⟨_, rfl, rfl⟩
            · exact ⟨_, rfl, rfl⟩
          · rintro σ H' ⟨c, rfl, rfl⟩
            refine ⟨_, rfl, _, rfl, a, _, ((0 : Nat) : Int), _, rfl, rfl, SqL.of hA, atI_nat rfl, _, _, rfl, rfl, .inr ⟨by decide +kernel, by decide +kernel⟩, _, _, rfl, rfl, _, _, rfl, rfl, _, _, rfl, rfl, .inr ⟨by decide +kernel, by decide +kernel⟩, .inl ⟨_, rfl, _, _, rfl, rfl, by show (0 : Int) < 2147483647; decide, ?_⟩⟩
            refine ⟨_, rfl, _, _, rfl, rfl, .inr ⟨by decide +kernel, by decide +kernel⟩, _, rfl, a, _, ((0 : Nat) : Int), _, rfl, rfl, SqL.of hA, atI_nat rfl, _, _, rfl, rfl, .inr ⟨by decide +kernel, by decide +kernel⟩, _, _, rfl, rfl, .inl ⟨_, rfl, _, _, rfl, rfl, by show (0 : Int) < 4294967291; decide, ?_⟩⟩
            refine ⟨_, rfl, a, _, 1, 1, rfl, rfl, hA, rfl, ?_⟩
            refine ⟨fun σ G => ∃ z' v3 v4, σ = [some (.ref a), some (.ref b), some (.int n), some (.int v3), v4, none] ∧ G = upd H a (.lst [.int i, .int z']), ?_, ?_⟩
            · have fin : ∀ (z' : Int) (c : Int) (v4 : Option V), ∃ z'' v3 v4', [some (.ref a), some (.ref b), some (.int n), some (.int c), v4, none] = [some (.ref a), some (.ref b), some (.int n), some (V.int v3), v4', none] ∧ upd H a (.lst [.int i, .int z']) = upd H a (.lst [.int i, .int z'']) := fun z' c v4 =>
                ⟨z', c, v4, rfl, rfl⟩
              have at0 : ∀ z', (upd H a (.lst [.int i, .int z'])) a = some (.lst [.int i, .int z']) := fun z' => upd_same
              refine ⟨_, rfl, _, _, rfl, rfl, ⟨by decide, by decide, by decide +kernel⟩, _, _, rfl, rfl, _, rfl, ite2 (fun c1 => ?_) (fun c1 => ?_)⟩
              · refine ⟨_, rfl, a, _, ((0 : Nat) : Int), _, rfl, rfl, SqL.of (at0 _), atI_nat rfl, _, rfl, b, _, rfl, .inl (sqL_upd hB ne), _, _, rfl, rfl, _, rfl, ite2 (fun c2 => ?_) (fun c2 => ?_)⟩
                · refine ⟨_, rfl, _, rfl, a, _, 1, 1, rfl, rfl, upd_same, rfl, ?_⟩
                  rw [upd_upd]
                  exact fin _ _ _
                · exact fin _ _ _
              · exact iteF (fin _ _ _)
            · rintro σ H2 ⟨z', v3, v4, rfl, rfl⟩
              have at0 : ∀ z', (upd H a (.lst [.int i, .int z'])) a = some (.lst [.int i, .int z']) := fun z' => upd_same
              refine ⟨_, rfl, a, _, ((0 : Nat) : Int), _, rfl, rfl, SqL.of (at0 _), atI_nat rfl, _, _, rfl, rfl, _, rfl, a, _, 0, 0, rfl, rfl, upd_same, rfl, ?_⟩
              rw [upd_upd]
              exact ⟨_, _, _, _, rfl, rfl⟩
      · exact ⟨i, z, none, none, rfl, (upd_id hA).symm⟩
    · rintro σ H' ⟨i', z', v3, v4, rfl, rfl⟩
      have at0 : ∀ i' z', (upd H a (.lst [.int i', .int z'])) a = some (.lst [.int i', .int z']) := fun i' z' => upd_same
      refine ⟨_, rfl, a, _, ((1 : Nat) : Int), _, rfl, rfl, SqL.of (at0 _ _), atI_nat rfl, .inl ⟨_, rfl, _, rfl, _, _, rfl, rfl, n0, ?_⟩⟩
      refine ⟨_, rfl, a, _, ((1 : Nat) : Int), _, rfl, rfl, SqL.of (at0 _ _), atI_nat rfl, _, rfl, _, _, rfl, rfl, ⟨n0, by omega⟩, _, rfl, a, _, 1, 1, rfl, rfl, upd_same, rfl, ?_⟩
      rw [upd_upd]
      refine ⟨_, rfl, ?_⟩
      exact k _ i' _ (Int.emod_nonneg _ (by omega)) (Int.emod_lt_of_pos _ n0)
end
end K11
namespace K11
open PySem L2
section
variable {P : Program} {w : World} {K : PySem.W.Frag} {mg : Str → Option Value} {base : Heap} {CH CS : Addr} {f : Addr} {fd : FuncData}
/-- where the draws of a run stand -/
structure Dw (K : PySem.W.Frag) (a b : Addr) (ns : List Int) (H : Hp) : Prop where
  st : ∃ i z, H a = some (.lst [.int i, .int z])
  sq : SqL K H b (ns.map V.int)
  len : ns.length ≤ 63
  ne : Off K a b (ns.map V.int)
theorem But.refl {a : Addr} {H : Hp} : But a H H := fun _ _ _ h => h
theorem But.trans {a : Addr} {H G J : Hp} (h : But a H G) (k : But a G J) : But a H J := fun b o e x => k b o e (h b o e x)
theorem Same.but {a : Addr} {H G : Hp} (h : Same H G) : But a H G := fun b o _ x => h b o x
theorem But.upd {a : Addr} {o : HO} {H : Hp} : But a H (L2.upd H a o) := fun b u e x => by rw [upd_ne e]; exact x
theorem But.put {a b : Addr} {o : HO} {H G : Hp} (h : But a H G) (f : H b = none) : But a H (L2.upd G b o) := fun c u e x => by
  rw [upd_ne (ne_of_none x f)]
  exact h c u e x
theorem But.hid {a : Addr} {H G : Hp} (h : But a H G) : Same (hide H a) (hide G a) := fun b u e => by
  obtain ⟨n, x⟩ := hide.get e
  rw [hide.at_ n]
  exact h b u n x
theorem But.sq {K : PySem.W.Frag} {a b : Addr} {xs : List V} {H G : Hp} (h : But a H G) (ne : Off K a b xs) (s : SqL K H b xs) : SqL K G b xs := by
  rcases ne with ne | ne
  case inr => exact ne _
  rcases s with (s | ⟨u, s⟩) | s
  · exact .inl (.inl (h _ _ ne s))
  · exact .inl (.inr ⟨u, h _ _ ne s⟩)
  · exact .inr s
theorem But.free {a p : Addr} {H G : Hp} (h : But a H G) (ne : p ≠ a) (f : G p = none) : H p = none := by
  cases e : H p with
  | none => rfl
  | some o => rw [h _ _ ne e] at f; cases f
theorem Dw.same {a b : Addr} {ns : List Int} {H G : Hp} (h : Dw K a b ns H) (s : Same H G) : Dw K a b ns G :=
  let ⟨i, z, e⟩ := h.st
  ⟨⟨i, z, s _ _ e⟩, s.seq h.sq, h.len, h.ne⟩
theorem Dw.set {a b l : Addr} {o : HO} {ns : List Int} {H H0 : Hp} (h : Dw K a b ns H) (h0 : Dw K a b ns H0) (f : H0 l = none) (bu : But a H0 (L2.upd H l o)) : Dw K a b ns (L2.upd H l o) := by
  obtain ⟨i, z, e⟩ := h.st
  obtain ⟨_, _, e0⟩ := h0.st
  refine ⟨⟨i, z, ?_⟩, bu.sq h.ne h0.sq, h.len, h.ne⟩
  rw [upd_ne (ne_of_none e0 f)]
  exact e
/-- one draw -/
theorem Dw.step {a b : Addr} {ns : List Int} {H : Hp} (h : Dw K a b ns H) (i z : Int) : ∃ H', H' = L2.upd H a (.lst [.int i, .int z]) ∧ But a H H' ∧ Dw K a b ns H' :=
  ⟨_, rfl, .upd, ⟨i, z, upd_same⟩, sqL_upd h.sq h.ne, h.len, h.ne⟩
/-- a signature that is being changed -/
structure Fg (K : PySem.W.Frag) (a b l : Addr) (ns : List Int) (H H' : Hp) (lo hi : Nat) : Prop where
  dw : Dw K a b ns H'
  bu : But a H H'
  ex : ∃ sg : List Int, H' l = some (.lst (sg.map V.int)) ∧ lo ≤ sg.length ∧ sg.length ≤ hi
theorem Fg.step {a b l : Addr} {ns : List Int} {H H' : Hp} {lo hi : Nat} (nl : l ≠ a) (h : Fg K a b l ns H H' lo hi) (i z : Int) :
    ∃ G, G = L2.upd H' a (.lst [.int i, .int z]) ∧ Fg K a b l ns H G lo hi ∧ H' l = G l := by
  obtain ⟨G, e, bu, dw⟩ := h.dw.step i z
  obtain ⟨sg, e', l0, l1⟩ := h.ex
  exact ⟨G, e, ⟨dw, h.bu.trans bu, sg, bu _ _ nl e', l0, l1⟩, by rw [e', bu _ _ nl e']⟩
theorem Fg.set {a b l : Addr} {ns sg : List Int} {H H' : Hp} {lo hi lo' hi' : Nat} (d0 : Dw K a b ns H) (f : H l = none) (h : Fg K a b l ns H H' lo hi) (l0 : lo' ≤ sg.length) (l1 : sg.length ≤ hi') :
    Fg K a b l ns H (L2.upd H' l (.lst (sg.map V.int))) lo' hi' :=
  ⟨h.dw.set d0 f (h.bu.put f), h.bu.put f, sg, upd_same, l0, l1⟩
theorem Fg.le {a b l : Addr} {ns : List Int} {H H' : Hp} {lo hi lo' hi' : Nat} (h : Fg K a b l ns H H' lo hi) (l0 : lo' ≤ lo) (l1 : hi ≤ hi') : Fg K a b l ns H H' lo' hi' :=
  let ⟨sg, e, p, q⟩ := h.ex
  ⟨h.dw, h.bu, sg, e, by omega, by omega⟩
theorem set_map {sg : List Int} {k : Nat} {v : Int} : (sg.map V.int).set k (.int v) = (sg.set k v).map V.int := by rw [List.map_set]
theorem wd_size {z : Int} (h : Wd z) : 0 < (1 : Int) * 2 ^ z.toNat ∧ (1 : Int) * 2 ^ z.toNat < 1000000 := by
  obtain ⟨t, e⟩ : ∃ t, t = z.toNat := ⟨_, rfl⟩
  have t16 : t ≤ 16 := by have := h.hi; omega
  rw [← e, Int.one_mul]
  have a : (2 : Nat) ^ t ≤ 2 ^ 16 := Nat.pow_le_pow_right (by decide) t16
  have b : 0 < (2 : Nat) ^ t := Nat.pow_pos (by decide)
  have c : ((2 ^ t : Nat) : Int) = 2 ^ t := by simp
  omega
theorem ixn_nat {n j : Nat} (hj : j < n) : ixN n (j : Int) = some j := by
  unfold ixN
  rw [if_pos (by omega), if_pos (by omega), Int.toNat_natCast]
theorem cpow1w {z : Int} (h : Wd z) : CPow 1 z := ⟨by have := h.lo; omega, by have := h.hi; omega, by decide +kernel⟩
abbrev s_law_forged : Stmt := top 45
theorem sc_law_forged : FnScope ["_law_state", "_law_script", "_law_width", "_law_keys_here", "_law_rows_here", "_law_message", "_law_index", "_law_signature", "_law_turn", "_law_kind", "_law_at"] ["_law_state", "_law_script", "_law_width", "_law_keys_here", "_law_rows_here", "_law_message"] (defScope s_law_forged) := ⟨rfl, rfl, rfl, by decide +kernel, rfl, by decide +kernel, by decide +kernel⟩
theorem ok_law_forged (F : Fun K "_law_forged" "_law_forged" s_law_forged f fd) (T : Tx K mg CH CS) (c_law_draw : C8.Cal P w K mg base 1 "_law_draw" (spDraw K) []) (c_law_signed : C8.Cal P w K mg base 2 "_law_signed" spLSigned []) :
    FnOk P w K mg base CX0 3 f fd ["_law_state", "_law_script", "_law_width", "_law_keys_here", "_law_rows_here", "_law_message"] (spLForged K) := by
  refine F.ok sc_law_forged (fun vs H Q E h => ?_) (fun cdv A outer s H vs Q E hr h => ?_)
  · obtain ⟨a, b, i, z, y, x, m, L, ns, vk, vr, rfl, _⟩ := h
    rfl
  · obtain ⟨a, b, i, z, y, x, m, L, ns, vk, vr, rfl, hA, hB, h63, ne, hy, hL, kk, rr, k⟩ := h
    have dw : Dw K a b ns H := ⟨⟨i, z, hA⟩, hB, h63, ne⟩
    obtain ⟨ak, ks, rfl, hak, allk⟩ := id kk
    obtain ⟨ar, rs, rfl, har, allr⟩ := id rr
    have n26 := hy.nch
    have l64 := two_le6 hL
    have pos : 0 < 2 ^ L := Nat.pow_pos (by decide)
    have hklen : ks.length = 2 ^ L := by rw [allk.len]; simp [keysL]
    have ws := wd_size hy
    refine ⟨_, (pss_cons (ps_set (i := 6) sc_law_forged.nd rfl (Or.inl rfl) (C8.pe_c c_law_draw hr (by decide) rfl (pa_cons (pv 0) (pa_cons (pv 1) (pa_cons (pe_callB call_len_seq (by rfl) T.len PySem.boot_len (pa_cons (pv 3) pa_nil)) pa_nil)))))
        (pss_cons (ps_set (i := 7) sc_law_forged.nd rfl (Or.inl rfl) (pe_callTy call_list_of (by rfl) T.list (by decide +kernel) (pa_cons (C8.pe_c c_law_signed hr (by decide) rfl (pa_cons (pv 2) (pa_cons (pv 3) (pa_cons (pv 4) (pa_cons (pv 6) (pa_cons (pv 5) pa_nil)))))) pa_nil)))
        (pss_cons (ps_for PassesOwn.never rfl (pi_range1 rfl T.range (pa_cons (C8.pe_c c_law_draw hr (by decide) rfl (pa_cons (pv 0) (pa_cons (pv 1) (pa_cons pe_int pa_nil)))) pa_nil)) (pg_name (i := 8) sc_law_forged.nd rfl (by first | exact Or.inl rfl | exact Or.inr rfl))
          (pss_cons (ps_set (i := 9) sc_law_forged.nd rfl (Or.inl rfl) (C8.pe_c c_law_draw hr (by decide) rfl (pa_cons (pv 0) (pa_cons (pv 1) (pa_cons pe_int pa_nil)))))
        (pss_cons (ps_set (i := 10) sc_law_forged.nd rfl (Or.inl rfl) (pe_op op_add pe_int (C8.pe_c c_law_draw hr (by decide) rfl (pa_cons (pv 0) (pa_cons (pv 1) (pa_cons (pe_op op_sub (pe_callB call_len_seq (by rfl) T.len PySem.boot_len (pa_cons (pv 7) pa_nil)) pe_int) pa_nil))))))
        (pss_one (ps_if (pt_cmpR op_eq (pv 9) pe_int (nomark _)) (pss_one (ps_asg (C8.pe_c c_law_draw hr (by decide) rfl (pa_cons (pv 0) (pa_cons (pv 1) (pa_cons (pe_op op_shl pe_int (pv 2)) pa_nil)))) (pg_sub (pv 7) (pv 10) set_list))) (pss_one (ps_if (PW.pt (pw_and (pt_cmpR op_eq (pv 9) pe_int (nomark _)) (pw_and1 (pt_cmpR op_le (pv 10) (pe_callB call_len_seq (by rfl) T.len PySem.boot_len (pa_cons (pe_ix ix_list (pv 3) pe_int (fun _ _ => rfl)) pa_nil)) (nomark _))))) (pss_one (ps_asg (pe_ix ix_list (pe_ix ix_list (pe_ix ix_list (pv 3) (pv 6) (fun _ _ => rfl)) (pe_op op_sub (pv 10) pe_int) (fun _ _ => rfl)) (C8.pe_c c_law_draw hr (by decide) rfl (pa_cons (pv 0) (pa_cons (pv 1) (pa_cons pe_int pa_nil)))) (fun _ _ => rfl)) (pg_sub (pv 7) (pv 10) set_list))) (pss_one (ps_if (pt_cmpR op_eq (pv 9) pe_int (nomark _)) (pss_one (ps_asg (C8.pe_c c_law_draw hr (by decide) rfl (pa_cons (pv 0) (pa_cons (pv 1) (pa_cons (pe_op op_mul pe_int (pe_callB call_len_seq (by rfl) T.len PySem.boot_len (pa_cons (pv 3) pa_nil))) pa_nil)))) (pg_sub (pv 7) pe_int set_list))) (pss_one (ps_if (PW.pt (pw_and (pt_cmpR op_eq (pv 9) pe_int (nomark _)) (pw_and1 (pt_cmpR op_eq (C8.pe_c c_law_draw hr (by decide) rfl (pa_cons (pv 0) (pa_cons (pv 1) (pa_cons pe_int pa_nil)))) pe_int (nomark _))))) (pss_one (ps_expr (pe_bm PySem.F.plainAttrs_list PySem.F.slot_list_append PySem.F.type_list_append mt_append (pv 7) (pa_cons (C8.pe_c c_law_draw hr (by decide) rfl (pa_cons (pv 0) (pa_cons (pv 1) (pa_cons (pe_op op_shl pe_int (pv 2)) pa_nil)))) pa_nil)))) (pss_one (ps_if (PW.pt (pw_and (pt_cmpR op_eq (pv 9) pe_int (nomark _)) (pw_and (pt_cmpR op_gt (pe_callB call_len_seq (by rfl) T.len PySem.boot_len (pa_cons (pv 7) pa_nil)) (pe_callB call_len_seq (by rfl) T.len PySem.boot_len (pa_cons (pe_ix ix_list (pv 3) pe_int (fun _ _ => rfl)) pa_nil)) (nomark _)) (pw_and1 (pt_cmpR op_eq (C8.pe_c c_law_draw hr (by decide) rfl (pa_cons (pv 0) (pa_cons (pv 1) (pa_cons pe_int pa_nil)))) pe_int (nomark _)))))) (pss_one (ps_expr (pe_bm0 PySem.F.plainAttrs_list PySem.F.slot_list_pop PySem.F.type_list_pop mt_pop (pv 7)))) pss_nil)))))))))))))
        (pss_one (ps_ret (pe_callTy call_tuple_of (by rfl) T.tuple (by decide +kernel) (pa_cons (pv 7) pa_nil))))))), ?_⟩
    refine ⟨_, rfl, _, rfl, _, rfl, ak, _, rfl, .inl (SqL.of (hide.to _ _ hak)), ?_⟩
    refine ⟨a, b, i, z, _, ns, rfl, hA, hB, h63, ne, by omega, by omega, fun d i1 z1 d0 d1 => ?_⟩
    obtain ⟨H1, e1, bu1, dw1⟩ := dw.step i1 z1
    rw [← e1]
    obtain ⟨j, rfl⟩ := Int.eq_ofNat_of_zero_le d0
    have hj : j < 2 ^ L := by omega
    have s1 := bu1.hid
    refine ⟨_, rfl, _, rfl, _, rfl, _, rfl, _, rfl, y, x, m, L, j, _, _, rfl, hy, hL, hj, keys_mono (s1.trans hide.to) kk, rows_mono (s1.trans hide.to) rr, fun H2 p sg s2 len hp => ?_⟩
    refine ⟨p, _, rfl, .inr (SqT.of hp), fun l nl => ?_⟩
    have dw2 := dw1.same s2
    have bu2 := bu1.trans (Same.but s2)
    have nla : l ≠ a := fun e => by
      obtain ⟨i', z', e'⟩ := dw2.st
      rw [← e, nl] at e'
      cases e'
    have fl : H l = none := bu2.free nla nl
    have fg : Fg K a b l ns H (upd H2 l (.lst (sg.map V.int))) 2 13 := ⟨dw2.set dw fl (bu2.put fl), bu2.put fl, sg, upd_same, by omega, by omega⟩
    refine ⟨_, rfl, _, rfl, ?_⟩
    obtain ⟨i0, z0, e0⟩ := fg.dw.st
    refine ⟨a, b, i0, z0, _, ns, rfl, e0, fg.dw.sq, h63, ne, by decide, by decide, fun d i1 z1 d0 d1 => ?_⟩
    obtain ⟨H3, e1, fg3, _⟩ := fg.step nla i1 z1
    rw [← e1]
    obtain ⟨t, rfl⟩ := Int.eq_ofNat_of_zero_le d0
    refine ⟨_, rfl, (n62 (n := t) (by omega)).1, (n62 (n := t) (by omega)).2, ?_⟩
    refine for_it (walk_rng (n := ((t : Nat) : Int).toNat)) (fun c σ G => Fg K a b l ns H G 2 (13 + c) ∧ ∃ v8 v9 v10, σ = [some (.ref a), some (.ref b), some (.int y), some (.ref ak), some (.ref ar), some (.int m), some (.int j), some (.ref l), v8, v9, v10])
      ⟨fg3, none, none, none, rfl⟩ tr3 ?_ ?_
    · rintro c u σ G G' hc ⟨fg4, v8, v9, v10, rfl⟩ ⟨rfl, rfl⟩
      have hc : c < t := hc
      refine ⟨_, rfl, _, rfl, ?_⟩
      obtain ⟨i0, z0, e0⟩ := fg4.dw.st
      refine ⟨a, b, i0, z0, _, ns, rfl, e0, fg4.dw.sq, h63, ne, by decide, by decide, fun kd i1 z1 k0 k1 => ?_⟩
      obtain ⟨G5, e1, fg5, _⟩ := fg4.step nla i1 z1
      rw [← e1]
      obtain ⟨sg5, e5, lo5, hi5⟩ := fg5.ex
      refine ⟨_, rfl, _, rfl, _, rfl, l, _, rfl, .inl (SqL.of e5), _, _, rfl, rfl, ?_⟩
      obtain ⟨i0, z0, e0⟩ := fg5.dw.st
      refine ⟨a, b, i0, z0, _, ns, rfl, e0, fg5.dw.sq, h63, ne, by rw [List.length_map]; omega, by rw [List.length_map]; omega, fun q i1 z1 q0 q1 => ?_⟩
      obtain ⟨G6, e1, fg6, e6⟩ := fg5.step nla i1 z1
      rw [← e1]
      rw [List.length_map] at q1
      obtain ⟨q, rfl⟩ := Int.eq_ofNat_of_zero_le q0
      obtain ⟨qa, eqa, hqa⟩ : ∃ qa : Nat, (1 : Int) + ((q : Nat) : Int) = ((qa : Nat) : Int) ∧ 1 ≤ qa ∧ qa < sg5.length := ⟨1 + q, by omega, by omega, by omega⟩
      rw [e5] at e6
      have fin : ∀ {G : Hp}, Fg K a b l ns H G 2 (13 + c) → Fg K a b l ns H G 2 (13 + (c + 1)) := fun h => h.le (by omega) (by omega)
      refine ⟨_, _, rfl, rfl, ?_⟩
      have finS : ∀ {G : Hp} {k : Nat} {v : Int}, Fg K a b l ns H G 2 (13 + c) → Fg K a b l ns H (upd G l (.lst ((sg5.map V.int).set k (.int v)))) 2 (13 + (c + 1)) := fun {G k v} h => by
        rw [set_map]
        exact h.set dw fl (by rw [List.length_set]; exact lo5) (by rw [List.length_set]; omega)
      have ix1 : ixN (sg5.map V.int).length (1 + ((q : Nat) : Int)) = some (1 + q) := by
        rw [show (1 : Int) + ((q : Nat) : Int) = ((1 + q : Nat) : Int) by omega]
        exact ixn_nat (by rw [List.length_map]; omega)
      obtain ⟨v0, hv0, a0, ws0, rfl, ha0, al0⟩ := allk.get (rng_at (g := fun (i : Nat) => keyL y x i) pos)
      have len0 : ws0.length = nch y := by rw [al0.len]; simp [keyL]
      have e6 := e6.symm
      have at0 : ∀ {G : Hp}, Fg K a b l ns H G 2 (13 + c) → ∀ {p : Addr} {o : HO}, hide H a p = some o → G p = some o := fun {G} h {p o} e => hide.to _ _ (Fg.bu h |>.hid _ _ e)
      refine ⟨_, rfl, rfl, _, rfl, ite2 (fun c0 => ?_) (fun c0 => ?_)⟩
      · refine ⟨_, rfl, _, rfl, _, rfl, _, _, rfl, rfl, cpow1w hy, ?_⟩
        obtain ⟨i0, z0, e0⟩ := fg6.dw.st
        refine ⟨a, b, i0, z0, _, ns, rfl, e0, fg6.dw.sq, h63, ne, ws.1, ws.2, fun d i1 z1 d0 d1 => ?_⟩
        obtain ⟨G7, e1, fg7, e7⟩ := fg6.step nla i1 z1
        rw [← e1]
        clear e1 e0
        rw [e6] at e7
        have e7 := e7.symm
        exact ⟨_, rfl, _, rfl, l, _, _, 1 + q, rfl, rfl, e7, ix1, finS fg7, _, _, _, rfl⟩
      clear c0
      have no : ∀ {u v : Int}, decide (V.int u = V.int v) = true → u ≠ v → False := fun h n => n (V.int.inj (of_decide_eq_true h))
      refine ⟨_, rfl, rfl, _, rfl, ite2 (fun c1 => ?_) (fun c1 => iteF ?_)⟩
      · refine ⟨_, rfl, _, rfl, ak, ks, ((0 : Nat) : Int), _, rfl, rfl, SqL.of (at0 fg6 hak), atI_nat hv0, a0, _, rfl, .inl (SqL.of (at0 fg6 ha0)), _, _, rfl, rfl, _, rfl, ite2 (fun c2 => ?_) (fun c2 => ?_)⟩
        · have c2 : (1 : Int) + ((q : Nat) : Int) ≤ ((ws0.length : Nat) : Int) := of_decide_eq_true c2
          have hq : q < nch y := by omega
          obtain ⟨v1, hv1, a1, ws1, rfl, ha1, al1⟩ := allk.get (rng_at (g := fun (i : Nat) => keyL y x i) hj)
          obtain ⟨v2, hv2, a2, rfl, ha2⟩ := al1.get (rng_at (g := fun (c : Nat) => chainL y x j c) hq)
          refine ⟨_, rfl, _, rfl, ak, ks, ((j : Nat) : Int), _, rfl, rfl, SqL.of (at0 fg6 hak), atI_nat hv1, _, rfl, _, _, rfl, rfl, a1, ws1, ((q : Nat) : Int), _, rfl, congrArg V.int (show (1 : Int) + ((q : Nat) : Int) - 1 = ((q : Nat) : Int) by omega), SqL.of (at0 fg6 ha1), atI_nat hv2, _, rfl, _, rfl, ?_⟩
          obtain ⟨i0, z0, e0⟩ := fg6.dw.st
          refine ⟨a, b, i0, z0, _, ns, rfl, e0, fg6.dw.sq, h63, ne, by decide, by decide, fun d i1 z1 d0 d1 => ?_⟩
          obtain ⟨G7, e1, fg7, e7⟩ := fg6.step nla i1 z1
          rw [← e1]
          clear e1 e0
          rw [e6] at e7
          have e7 := e7.symm
          obtain ⟨d, rfl⟩ := Int.eq_ofNat_of_zero_le d0
          have g : ((chainL y x j q).map V.int)[d]? = some (.int (wd y x j q d)) := by
            rw [chainL, List.getElem?_map, rng_at (by omega)]
            rfl
          refine ⟨a2, _, ((d : Nat) : Int), _, rfl, rfl, SqL.of (at0 fg7 ha2), atI_nat g, ?_⟩
          exact ⟨_, rfl, _, rfl, l, _, _, 1 + q, rfl, rfl, e7, ix1, finS fg7, _, _, _, rfl⟩
        · obtain rfl : kd = 1 := V.int.inj (of_decide_eq_true c1)
          exact ⟨_, rfl, rfl, _, rfl, ite2 (fun c => by exact (no c (by decide)).elim) fun _ => ⟨_, rfl, rfl, _, rfl, ite2 (fun c => by exact (no c (by decide)).elim) fun _ => iteF ⟨_, rfl, rfl, _, rfl, ite2 (fun c => by exact (no c (by decide)).elim) fun _ => iteF ⟨fin fg6, _, _, _, rfl⟩⟩⟩⟩
      clear c1
      refine ⟨_, rfl, rfl, _, rfl, ite2 (fun c1 => ?_) (fun c1 => ?_)⟩
      · refine ⟨_, rfl, _, rfl, _, rfl, ak, _, rfl, .inl (SqL.of (at0 fg6 hak)), _, _, rfl, rfl, .inl ⟨by decide +kernel, by decide +kernel⟩, ?_⟩
        obtain ⟨i0, z0, e0⟩ := fg6.dw.st
        refine ⟨a, b, i0, z0, _, ns, rfl, e0, fg6.dw.sq, h63, ne, by omega, by omega, fun d i1 z1 d0 d1 => ?_⟩
        obtain ⟨G7, e1, fg7, e7⟩ := fg6.step nla i1 z1
        rw [← e1]
        clear e1 e0
        rw [e6] at e7
        have e7 := e7.symm
        exact ⟨_, rfl, l, _, ((0 : Nat) : Int), 0, rfl, rfl, e7, ixn_nat (by rw [List.length_map]; omega), finS fg7, _, _, _, rfl⟩
      clear c1
      refine ⟨_, rfl, rfl, _, rfl, ite2 (fun c1 => ?_) (fun c1 => iteF ?_)⟩
      · obtain rfl : kd = 3 := V.int.inj (of_decide_eq_true c1)
        refine ⟨_, rfl, _, rfl, ?_⟩
        obtain ⟨i0, z0, e0⟩ := fg6.dw.st
        refine ⟨a, b, i0, z0, _, ns, rfl, e0, fg6.dw.sq, h63, ne, by decide, by decide, fun d i1 z1 d0 d1 => ?_⟩
        obtain ⟨G7, e1, fg7, e7⟩ := fg6.step nla i1 z1
        rw [← e1]
        clear e1 e0
        rw [e6] at e7
        have e7 := e7.symm
        refine ⟨rfl, _, rfl, ite2 (fun c2 => ?_) (fun c2 => ?_)⟩
        · refine ⟨_, rfl, .inl ⟨rfl, _, SqL.of e7⟩, _, rfl, _, rfl, _, rfl, _, _, rfl, rfl, cpow1w hy, ?_⟩
          obtain ⟨i0, z0, e0⟩ := fg7.dw.st
          refine ⟨a, b, i0, z0, _, ns, rfl, e0, fg7.dw.sq, h63, ne, ws.1, ws.2, fun d i1 z1 d0 d1 => ?_⟩
          obtain ⟨G8, e1, fg8, e8⟩ := fg7.step nla i1 z1
          rw [← e1]
          clear e1 e0
          rw [e7] at e8
          have e8 := e8.symm
          refine ⟨l, _, _, rfl, rfl, e8, sz2 (by rw [List.length_map]; omega), ?_⟩
          refine ⟨?_, _, _, _, rfl⟩
          have := fg8.set (sg := sg5 ++ [d]) dw fl (lo' := 2) (hi' := 13 + (c + 1)) (by rw [List.length_append]; omega) (by rw [List.length_append, List.length_singleton]; omega)
          rwa [List.map_append] at this
        · exact ⟨_, rfl, rfl, _, rfl, ite2 (fun c => by exact (no c (by decide)).elim) fun _ => iteF ⟨fin fg7, _, _, _, rfl⟩⟩
      clear c1
      refine ⟨_, rfl, rfl, _, rfl, ite2 (fun c1 => ?_) (fun c1 => iteF ⟨fin fg6, _, _, _, rfl⟩)⟩
      refine ⟨_, rfl, l, _, rfl, .inl (SqL.of e6), _, rfl, ak, ks, ((0 : Nat) : Int), _, rfl, rfl, SqL.of (at0 fg6 hak), atI_nat hv0, a0, _, rfl, .inl (SqL.of (at0 fg6 ha0)), _, _, rfl, rfl, _, rfl, ite2 (fun c2 => ?_) (fun c2 => iteF ⟨fin fg6, _, _, _, rfl⟩)⟩
      have c2 : ((ws0.length : Nat) : Int) < (((sg5.map V.int).length : Nat) : Int) := of_decide_eq_true c2
      rw [List.length_map] at c2
      refine ⟨_, rfl, _, rfl, ?_⟩
      obtain ⟨i0, z0, e0⟩ := fg6.dw.st
      refine ⟨a, b, i0, z0, _, ns, rfl, e0, fg6.dw.sq, h63, ne, by decide, by decide, fun d i1 z1 d0 d1 => ?_⟩
      obtain ⟨G7, e1, fg7, e7⟩ := fg6.step nla i1 z1
      rw [← e1]
      clear e1 e0
      rw [e6] at e7
      have e7 := e7.symm
      refine ⟨rfl, _, rfl, ite2 (fun c3 => ?_) (fun c3 => ⟨fin fg7, _, _, _, rfl⟩)⟩
      have last : (sg5.map V.int)[(sg5.map V.int).length - 1]? = some (.int (sg5[sg5.length - 1]'(by omega))) := by
        rw [List.length_map, List.getElem?_map, List.getElem?_eq_getElem (by omega)]
        rfl
      refine ⟨_, rfl, .inl ⟨rfl, _, SqL.of e7⟩, l, _, _, rfl, rfl, e7, last, ?_⟩
      refine ⟨?_, _, _, _, rfl⟩
      have := fg7.set (sg := sg5.dropLast) dw fl (lo' := 2) (hi' := 13 + (c + 1)) (by rw [List.length_dropLast]; omega) (by rw [List.length_dropLast]; omega)
      rwa [List.map_dropLast] at this
    · rintro σ G ⟨fg4, v8, v9, v10, rfl⟩
      obtain ⟨sg4, e4, lo4, hi4⟩ := fg4.ex
      refine ⟨_, rfl, l, _, rfl, .inl ⟨SqL.of e4, fun r nr => ?_⟩⟩
      obtain ⟨i', z', ez⟩ := fg4.dw.st
      exact k _ i' z' r sg4 (fg4.bu.trans (Same.but (Same.new nr))) (Same.new nr _ _ ez) lo4 (by omega) upd_same
end
end K11
namespace K11
open PySem L2
section
variable {P : Program} {w : World} {K : PySem.W.Frag} {mg : Str → Option Value} {base : Heap} {CH CS : Addr} {f : Addr} {fd : FuncData}
/-- what a run of the law has made; none of it is the list of the draws -/
structure Lw (CH CS a : Addr) (y x : Int) (L : Nat) (h p : Addr) (vk vr : V) (H : Hp) : Prop where
  kk : Keys (hide H a) vk (keysL y x L)
  rr : Rows (hide H a) vr (rowsL y x L)
  hh : HasherAt CH (hide H a) h y
  ss : SignerAt CH CS (hide H a) p y x L
theorem Lw.but {a h p : Addr} {y x : Int} {L : Nat} {vk vr : V} {H G : Hp} (k : Lw CH CS a y x L h p vk vr H) (b : But a H G) : Lw CH CS a y x L h p vk vr G :=
  ⟨keys_mono b.hid k.kk, rows_mono b.hid k.rr, k.hh.mono b.hid, k.ss.mono b.hid⟩
theorem Nw.hd {H G : Hp} {a : Addr} {o : HO} (h : H a = some o) : Same (Nw H G) (hide G a) := fun b u e => by
  obtain ⟨n, c⟩ := Nw.get e
  rw [hide.at_ (fun q => by rw [q, h] at n; cases n)]
  exact c
theorem Off.of {H : Hp} {a b : Addr} {xs : List V} (h : SqL K H b xs) (n : H a = none) : Off K a b xs := by
  rcases h with (h | ⟨u, h⟩) | h
  · exact .inl fun e => by rw [e, n] at h; cases h
  · exact .inl fun e => by rw [e, n] at h; cases h
  · exact .inr fun _ => .inr h
/-- the dict of what was signed, its messages below 2 ^ y -/
structure Sdd (y : Int) (t : Nat) (sd : List (Int × Int)) : Prop where
  ok : ∀ e ∈ sd, sd.lookup e.1 = some e.2
  lt : ∀ e ∈ sd, e.1 < (t : Int)
  rg : ∀ e ∈ sd, 0 ≤ e.2 ∧ e.2 < 2 ^ y.toNat
  len : sd.length ≤ t
theorem lookup_mem {i m : Int} : ∀ {sd : List (Int × Int)}, sd.lookup i = some m → (i, m) ∈ sd
  | [], h => by cases h
  | e :: sd, h => by
    rw [List.lookup] at h
    split at h
    · next q =>
      have q := eq_of_beq q
      cases h
      rw [q]
      exact List.mem_cons_self ..
    · exact List.mem_cons_of_mem _ (lookup_mem h)
theorem lookup_no {i : Int} : ∀ {sd : List (Int × Int)}, (∀ e ∈ sd, e.1 ≠ i) → sd.lookup i = none
  | [], _ => rfl
  | e :: sd, h => by
    rw [List.lookup]
    have q : (i == e.1) = false := beq_eq_false_iff_ne.mpr fun z => h e (List.mem_cons_self ..) z.symm
    rw [q]
    exact lookup_no fun u hu => h u (List.mem_cons_of_mem _ hu)
theorem lookup_app {i : Int} {v : Int × Int} : ∀ {sd : List (Int × Int)} {m : Int}, sd.lookup i = some m → (sd ++ [v]).lookup i = some m
  | [], _, h => by cases h
  | e :: sd, m, h => by
    rw [List.cons_append, List.lookup]
    rw [List.lookup] at h
    split
    · next q => rw [q] at h; exact h
    · next q => rw [q] at h; exact lookup_app h
theorem lookup_last {i m : Int} : ∀ {sd : List (Int × Int)}, sd.lookup i = none → (sd ++ [(i, m)]).lookup i = some m
  | [], _ => by simp [List.lookup]
  | e :: sd, h => by
    rw [List.cons_append, List.lookup]
    rw [List.lookup] at h
    split
    · next q => rw [q] at h; cases h
    · next q => rw [q] at h; exact lookup_last h
theorem Sdd.nil {y : Int} : Sdd y 0 [] := ⟨fun e h => (List.not_mem_nil h).elim, fun e h => (List.not_mem_nil h).elim, fun e h => (List.not_mem_nil h).elim, Nat.le_refl _⟩
theorem iteT {A B : Prop} (h : A) : if true = true then A else B := h
theorem Sdd.sd {y : Int} {t : Nat} {sd : List (Int × Int)} (h : Sdd y t sd) : Sd y sd := ⟨fun i m e => h.rg _ (lookup_mem e)⟩
theorem Sdd.no {y : Int} {t : Nat} {sd : List (Int × Int)} (h : Sdd y t sd) : sd.lookup (t : Int) = none := lookup_no fun e he q => by
  have := h.lt e he
  omega
theorem Sdd.up {y : Int} {t : Nat} {sd : List (Int × Int)} (h : Sdd y t sd) : Sdd y (t + 1) sd :=
  ⟨h.ok, fun e he => by have := h.lt e he; omega, h.rg, by have := h.len; omega⟩
theorem Sdd.add {y m : Int} {t : Nat} {sd : List (Int × Int)} (h : Sdd y t sd) (h0 : 0 ≤ m) (h1 : m < 2 ^ y.toNat) : Sdd y (t + 1) (sd ++ [((t : Int), m)]) := by
  refine ⟨fun e he => ?_, fun e he => ?_, fun e he => ?_, ?_⟩
  · (rcases List.mem_append.mp he with he | he)
    · exact lookup_app (h.ok e he)
    · rw [List.mem_singleton.mp he]
      exact lookup_last h.no
  · (rcases List.mem_append.mp he with he | he)
    · have := h.lt e he
      omega
    · rw [List.mem_singleton.mp he]
      show (t : Int) < _
      omega
  · (rcases List.mem_append.mp he with he | he)
    · exact h.rg e he
    · rw [List.mem_singleton.mp he]
      exact ⟨h0, h1⟩
  · have := h.len
    (rw [List.length_append, List.length_singleton])
    omega
abbrev sdm (sd : List (Int × Int)) : List (Key × V) := sd.map fun e => (Sum.inl e.1, V.int e.2)
theorem menu_w {j : Nat} (h : j < 7) : ∃ y : Int, ([V.int 4, .int 4, .int 5, .int 6, .int 8, .int 13, .int 16] : List V)[j]? = some (.int y) ∧ Wd y := by
  match j, h with
  | 0, _ => exact ⟨4, rfl, by decide, by decide⟩
  | 1, _ => exact ⟨4, rfl, by decide, by decide⟩
  | 2, _ => exact ⟨5, rfl, by decide, by decide⟩
  | 3, _ => exact ⟨6, rfl, by decide, by decide⟩
  | 4, _ => exact ⟨8, rfl, by decide, by decide⟩
  | 5, _ => exact ⟨13, rfl, by decide, by decide⟩
  | 6, _ => exact ⟨16, rfl, by decide, by decide⟩
theorem menu_s {j : Nat} {z : Int} (hz : Nn z) (h : j < 3) : ∃ x : Int, ([V.int 5, .int 0, .int z] : List V)[j]? = some (.int x) ∧ Nn x := by
  match j, h with
  | 0, _ => exact ⟨5, rfl, .of (by decide) (by decide)⟩
  | 1, _ => exact ⟨0, rfl, .of (by decide) (by decide)⟩
  | 2, _ => exact ⟨z, rfl, hz⟩
abbrev s_law : Stmt := top 49
theorem sc_law : FnScope ["_law_script", "_law_state", "_law_width", "_law_hasher", "_law_secret", "_law_keys_here", "_law_rows_here", "_law_signer", "_law_signed_here", "_law_index", "_law_turn", "_law_message", "_law_signature", "_law_valid_here", "_law_kept", "_law_answer", "_law_one", "_law_other"] ["_law_script"] (defScope s_law) := ⟨rfl, rfl, rfl, by decide +kernel, rfl, by decide +kernel, by decide +kernel⟩
theorem ok_law (F : Fun K "law" "law" s_law f fd) (T : Tx K mg CH CS) (c_law_draw : C8.Cal P w K mg base 1 "_law_draw" (spDraw K) []) (c_Hasher : C8.Mak P w K mg base 1 "Hasher" CH (spHInit CH) []) (c_law_keys : C8.Cal P w K mg base 4 "_law_keys" spLKeys []) (c_law_rows : C8.Cal P w K mg base 2 "_law_rows" spLRows [])
    (c_Signer : C8.Mak P w K mg base 5 "Signer" CS (spSInit CH CS) []) (c_law_forged : C8.Cal P w K mg base 3 "_law_forged" (spLForged K) []) (c_law_valid : C8.Cal P w K mg base 4 "_law_valid" spLValid []) (c_law_public : C8.Cal P w K mg base 2 "_law_public" spLPublic []) (c_verify : C8.Cal P w K mg base 5 "verify" (spVerify CH) [])
    (c_signing_break : C8.Cal P w K mg base 6 "signing_break" (spBreak CH CS) []) (c_law_due : C8.Cal P w K mg base 4 "_law_due" spLDue []) (c_law_digest : C8.Cal P w K mg base 1 "_law_digest" (spLDigest K) []) (c_is_collision : C8.Cal P w K mg base 3 "is_collision" (spIsColl CH) []) :
    FnOk P w K mg base CX0 8 f fd ["_law_script"] (spLaw K) := by
  refine F.ok sc_law (fun vs H Q E h => ?_) (fun cdv A outer s H vs Q E hr h => ?_)
  · obtain ⟨a, ns, rfl, _⟩ := h
    rfl
  · obtain ⟨b, ns, rfl, hB, h63, k⟩ := h
    refine ⟨_, (pss_cons (ps_set (i := 1) sc_law.nd rfl (Or.inl rfl) (pe_lst (pa_cons pe_int (pa_cons pe_int pa_nil))))
        (pss_cons (ps_set (i := 2) sc_law.nd rfl (Or.inl rfl) (pe_ix ix_list (pe_lst (pa_cons pe_int (pa_cons pe_int (pa_cons pe_int (pa_cons pe_int (pa_cons pe_int (pa_cons pe_int (pa_cons pe_int pa_nil)))))))) (C8.pe_c c_law_draw hr (by decide) rfl (pa_cons (pv 1) (pa_cons (pv 0) (pa_cons pe_int pa_nil)))) (fun _ _ => rfl)))
        (pss_cons (ps_set (i := 3) sc_law.nd rfl (Or.inl rfl) (C8.pe_mk c_Hasher hr (by decide) rfl (pa_cons (pv 2) pa_nil)))
        (pss_cons (ps_set (i := 4) sc_law.nd rfl (Or.inl rfl) (pe_ix ix_list (pe_lst (pa_cons pe_int (pa_cons pe_int (pa_cons (pe_op op_shl pe_int pe_int) pa_nil)))) (C8.pe_c c_law_draw hr (by decide) rfl (pa_cons (pv 1) (pa_cons (pv 0) (pa_cons pe_int pa_nil)))) (fun _ _ => rfl)))
        (pss_cons (ps_set (i := 5) sc_law.nd rfl (Or.inl rfl) (C8.pe_c c_law_keys hr (by decide) rfl (pa_cons (pv 2) (pa_cons (pv 4) (pa_cons (C8.pe_c c_law_draw hr (by decide) rfl (pa_cons (pv 1) (pa_cons (pv 0) (pa_cons pe_int pa_nil)))) pa_nil)))))
        (pss_cons (ps_set (i := 6) sc_law.nd rfl (Or.inl rfl) (C8.pe_c c_law_rows hr (by decide) rfl (pa_cons (pv 2) (pa_cons (pv 5) pa_nil))))
        (pss_cons (ps_set (i := 7) sc_law.nd rfl (Or.inl rfl) (C8.pe_mk c_Signer hr (by decide) rfl (pa_cons (pv 3) (pa_cons (pv 4) (pa_cons (pe_op op_sub (pe_callB call_len_seq (by rfl) T.len PySem.boot_len (pa_cons (pv 6) pa_nil)) pe_int) pa_nil)))))
        (pss_cons (ps_set (i := 8) sc_law.nd rfl (Or.inl rfl) pe_dnewK)
        (pss_cons (ps_for PassesOwn.never rfl (pi_range1 rfl T.range (pa_cons (pe_callB call_len_seq (by rfl) T.len PySem.boot_len (pa_cons (pv 5) pa_nil)) pa_nil)) (pg_name (i := 9) sc_law.nd rfl (by first | exact Or.inl rfl | exact Or.inr rfl))
          (pss_one (ps_if (pt_cmpR op_eq (C8.pe_c c_law_draw hr (by decide) rfl (pa_cons (pv 1) (pa_cons (pv 0) (pa_cons pe_int pa_nil)))) pe_int (nomark _)) (pss_one (ps_dput (hu_of hr) (pv 8) (pv 9) (C8.pe_c c_law_draw hr (by decide) rfl (pa_cons (pv 1) (pa_cons (pv 0) (pa_cons (pe_op op_shl pe_int (pv 2)) pa_nil)))) rfl)) pss_nil)))
        (pss_cons (ps_for PassesOwn.never rfl (pi_range1 rfl T.range (pa_cons pe_int pa_nil)) (pg_name (i := 10) sc_law.nd rfl (by first | exact Or.inl rfl | exact Or.inr rfl))
          (pss_cons (ps_set (i := 11) sc_law.nd rfl (Or.inl rfl) (C8.pe_c c_law_draw hr (by decide) rfl (pa_cons (pv 1) (pa_cons (pv 0) (pa_cons (pe_op op_shl pe_int (pv 2)) pa_nil)))))
        (pss_cons (ps_set (i := 12) sc_law.nd rfl (Or.inl rfl) (C8.pe_c c_law_forged hr (by decide) rfl (pa_cons (pv 1) (pa_cons (pv 0) (pa_cons (pv 2) (pa_cons (pv 5) (pa_cons (pv 6) (pa_cons (pv 11) pa_nil))))))))
        (pss_one (ps_if (pt_cmpR op_ne (pe_dget2 (hu_of hr) (pv 8) (pe_ix ix_tup (pv 12) pe_int (fun _ _ => rfl)) (pe_un un_neg pe_int) ⟨rfl, rfl, rfl, rfl⟩) (pv 11) (nomark _)) (pss_cons (ps_set (i := 13) sc_law.nd rfl (Or.inl rfl) (C8.pe_c c_law_valid hr (by decide) rfl (pa_cons (pv 2) (pa_cons (C8.pe_c c_law_public hr (by decide) rfl (pa_cons (pv 2) (pa_cons (pv 6) pa_nil))) (pa_cons (pv 11) (pa_cons (pv 12) pa_nil))))))
        (pss_cons (ps_if (pt_cmpR op_ne (C8.pe_c c_verify hr (by decide) rfl (pa_cons (pv 3) (pa_cons (pe_fld (pv 7) rfl) (pa_cons (pv 11) (pa_cons (pv 12) pa_nil))))) (pv 13) (nomark _)) (pss_one (ps_ret pe_bl)) pss_nil)
        (pss_cons (ps_set (i := 14) sc_law.nd rfl (Or.inl rfl) (pe_callTy call_dictD (by rfl) T.dict (by decide +kernel) (pa_cons (pv 8) pa_nil)))
        (pss_cons (ps_set (i := 15) sc_law.nd rfl (Or.inl rfl) (C8.pe_c c_signing_break hr (by decide) rfl (pa_cons (pv 7) (pa_cons (pv 14) (pa_cons (pv 11) (pa_cons (pv 12) pa_nil))))))
        (pss_cons (ps_if (PW.pt (pw_or (PW.pt (pw_and (pt_not (pt_val (pv 13))) (pw_and1 (pt_cmp (pc_notN (pv 15)))))) (pw_or1 (pt_cmpR (op_ne_dictA hr.units0) (pv 14) (pv 8) (nomark _))))) (pss_one (ps_ret pe_bl)) pss_nil)
        (pss_one (ps_if (pt_val (pv 13)) (pss_cons (ps_if (PW.pt (pw_or (pt_cmp (pc_isN (pv 15))) (pw_or1 (pt_cmpR (op_neD hr.units) (pv 15) (C8.pe_c c_law_due hr (by decide) rfl (pa_cons (pv 2) (pa_cons (pv 5) (pa_cons (pv 6) (pa_cons (pv 8) (pa_cons (pv 11) (pa_cons (pv 12) pa_nil))))))) (nomark _))))) (pss_one (ps_ret pe_bl)) pss_nil)
        (pss_one (ps_if (pt_cmpR op_eq (pe_ix ix_tup (pv 15) pe_int (fun _ _ => rfl)) pe_str (nomark _)) (pss_cons (ps_asg (pe_slice sl_tup (pv 15) (po_some pe_int) po_none) (pg_tup rfl (pgs_cons (pg_name (i := 16) sc_law.nd rfl (by first | exact Or.inl rfl | exact Or.inr rfl)) (pgs_cons (pg_name (i := 17) sc_law.nd rfl (by first | exact Or.inl rfl | exact Or.inr rfl)) pgs_nil))))
        (pss_one (ps_if (PW.pt (pw_or (pt_cmpR op_ne (C8.pe_c c_law_digest hr (by decide) rfl (pa_cons (pv 2) (pa_cons (pe_ix ix_tup (pv 16) pe_int (fun _ _ => rfl)) (pa_cons (pe_ix ix_tup (pv 16) pe_int (fun _ _ => rfl)) pa_nil)))) (C8.pe_c c_law_digest hr (by decide) rfl (pa_cons (pv 2) (pa_cons (pe_ix ix_tup (pv 17) pe_int (fun _ _ => rfl)) (pa_cons (pe_ix ix_tup (pv 17) pe_int (fun _ _ => rfl)) pa_nil)))) (nomark _)) (pw_or1 (pt_not (pt_val (C8.pe_c c_is_collision hr (by decide) rfl (pa_cons (pv 3) (pa_cons (pv 15) pa_nil)))))))) (pss_one (ps_ret pe_bl)) pss_nil))) pss_nil))) pss_nil))))))) pss_nil)))))
        (pss_one (ps_ret pe_bl)))))))))))), ?_⟩
    refine ⟨by show 2 ≤ sizeLine; decide, fun a na => ?_⟩
    have ne := Off.of hB na
    have dw1 : Dw K a b ns (upd H a (.lst [.int 0, .int 0])) := ⟨⟨0, 0, upd_same⟩, sqL_upd hB ne, h63, ne⟩
    obtain ⟨H1, e1⟩ : ∃ H1, H1 = upd H a (.lst [.int 0, .int 0]) := ⟨_, rfl⟩
    rw [← e1] at dw1 ⊢
    refine ⟨by show 7 ≤ sizeLine; decide, fun m1 n1 => ?_⟩
    have dw2 := dw1.same (Same.new (o := .lst [.int 4, .int 4, .int 5, .int 6, .int 8, .int 13, .int 16]) n1)
    have nm1 : m1 ≠ a := fun e => by
      obtain ⟨_, _, q⟩ := dw1.st
      rw [← e, n1] at q
      cases q
    refine ⟨_, rfl, _, rfl, ?_⟩
    obtain ⟨i0, z0, e0⟩ := dw2.st
    refine ⟨a, b, i0, z0, 7, ns, rfl, e0, dw2.sq, h63, ne, by decide, by decide, fun j i1 z1 j0 j1 => ?_⟩
    obtain ⟨H3, e1, b3, dw3⟩ := dw2.step i1 z1
    rw [← e1]
    clear e1 e0
    have hm1 := b3 _ _ nm1 upd_same
    clear b3
    obtain ⟨j, rfl⟩ := Int.eq_ofNat_of_zero_le j0
    obtain ⟨y, hy, wy⟩ := menu_w (j := j) (by omega)
    refine ⟨m1, _, ((j : Nat) : Int), _, rfl, rfl, SqL.of hm1, atI_nat hy, ?_⟩
    clear hm1 hy nm1 n1 dw2 j0 j1
    refine ⟨_, rfl, fun h dx nh ndx _ => ?_⟩
    refine ⟨h, dx, y, rfl, upd_same, ⟨rfl, ?_⟩⟩
    obtain ⟨H4, e4⟩ : ∃ H4, H4 = upd (upd (upd H3 dx (.own h)) h (.ins CH dx [])) h (.ins CH dx [("width", .int y)]) := ⟨_, rfl⟩
    have s4 : Same H3 H4 := by rw [e4]; exact Same.put (Same.put (Same.new ndx) nh) nh
    have nha : h ≠ a := fun e => by
      obtain ⟨_, _, q⟩ := dw3.st
      rw [← e, nh] at q
      cases q
    have hh4 : HasherAt CH (hide H4 a) h y := ⟨dx, by rw [hide.at_ nha, e4]; exact upd_same⟩
    rw [← e4]
    clear e4 nh ndx nha
    have dw4 := dw3.same s4
    have nz : Nn ((1 : Int) * 2 ^ (100 : Int).toNat) := .of (by decide +kernel) (by decide +kernel)
    refine ⟨_, _, rfl, rfl, ⟨by decide, by decide, by decide +kernel⟩, by show 3 ≤ sizeLine; decide, fun m2 n2 => ?_⟩
    have nm2 : m2 ≠ a := fun e => by
      obtain ⟨_, _, q⟩ := dw4.st
      rw [← e, n2] at q
      cases q
    obtain ⟨H5, e5⟩ : ∃ H5, H5 = upd H4 m2 (.lst [.int 5, .int 0, .int ((1 : Int) * 2 ^ (100 : Int).toNat)]) := ⟨_, rfl⟩
    have s5 : Same H4 H5 := by rw [e5]; exact Same.new n2
    have hm5 : H5 m2 = some (.lst [.int 5, .int 0, .int ((1 : Int) * 2 ^ (100 : Int).toNat)]) := by rw [e5]; exact upd_same
    refine Eq.mp (congrArg _ e5) ?_
    clear e5 n2
    generalize (1 : Int) * 2 ^ (100 : Int).toNat = z at nz hm5
    have dw5 := dw4.same s5
    have hh5 := hh4.mono (hide.grow (D := a) s5)
    refine ⟨_, rfl, _, rfl, ?_⟩
    obtain ⟨i0, z0, e0⟩ := dw5.st
    refine ⟨a, b, i0, z0, 3, ns, rfl, e0, dw5.sq, h63, ne, by decide, by decide, fun j i1 z1 j0 j1 => ?_⟩
    obtain ⟨H6, e1, b6, dw6⟩ := dw5.step i1 z1
    rw [← e1]
    clear e1 e0
    have hm2 := b6 _ _ nm2 hm5
    have hh6 := hh5.mono b6.hid
    obtain ⟨j, rfl⟩ := Int.eq_ofNat_of_zero_le j0
    obtain ⟨x, hx, nx⟩ := menu_s (j := j) nz (by omega)
    refine ⟨m2, _, ((j : Nat) : Int), _, rfl, rfl, SqL.of hm2, atI_nat hx, ?_⟩
    clear hm2 hx nz nm2 dw5 b6 hh5 j0 j1 hm5 s5
    refine ⟨_, rfl, _, rfl, _, rfl, _, rfl, ?_⟩
    obtain ⟨i0, z0, e0⟩ := dw6.st
    refine ⟨a, b, i0, z0, 3, ns, rfl, e0, dw6.sq, h63, ne, by decide, by decide, fun L i1 z1 L0 L1 => ?_⟩
    obtain ⟨H7, e1, b7, dw7⟩ := dw6.step i1 z1
    rw [← e1]
    clear e1 e0
    have hh7 := hh6.mono b7.hid
    obtain ⟨L, rfl⟩ := Int.eq_ofNat_of_zero_le L0
    have hL : L ≤ 6 := by omega
    have l64 := two_le6 hL
    refine ⟨y, x, L, rfl, wy, nx, hL, fun H8 vk s8 kk => ?_⟩
    obtain ⟨_, _, e7⟩ := dw7.st
    have kk := keys_mono (Nw.hd e7) kk
    have dw8 := dw7.same s8
    have hh8 := hh7.mono (hide.grow s8)
    refine ⟨_, rfl, _, rfl, y, x, L, vk, rfl, wy, nx, hL, keys_mono hide.to kk, fun H9 vr s9 rr => ?_⟩
    obtain ⟨_, _, e8⟩ := dw8.st
    have rr := rows_mono (Nw.hd e8) rr
    have kk := keys_mono (hide.grow s9) kk
    have dw9 := dw8.same s9
    have hh9 := hh8.mono (hide.grow s9)
    clear hh8 hh7 hh6 hh4 dw8 dw7 dw6 dw4 dw3 e7 e8 b7 s8 s9 s4
    obtain ⟨ar, rs, rfl, har, allr⟩ := id rr
    obtain ⟨ak, ks, rfl, hak, allk⟩ := id kk
    have hklen : ks.length = 2 ^ L := by rw [allk.len]; simp [keysL]
    have hrlen : rs.length = L + 1 := by rw [allr.len]; simp [rowsL]
    have el : ((rs.length : Nat) : Int) - 1 = ((L : Nat) : Int) := by omega
    refine ⟨_, rfl, _, rfl, _, rfl, ar, _, rfl, .inl (SqL.of (hide.to _ _ har)), _, _, rfl, rfl, fun p dx np ndx _ => ?_⟩
    refine ⟨H9, p, dx, h, y, x, L, congrArg (fun q => [V.ref p, V.ref h, V.int x, V.int q]) el, Same.put (Same.new ndx) np, np, upd_same, hh9.mono hide.to, wy, nx, hL, fun H10 s10 sgn => ⟨rfl, ?_⟩⟩
    obtain ⟨_, _, e9⟩ := dw9.st
    have npa : p ≠ a := fun e => by rw [← e, np] at e9; cases e9
    have lw : Lw CH CS a y x L h p (.ref ak) (.ref ar) H10 := ⟨keys_mono (hide.grow s10) kk, rows_mono (hide.grow s10) rr, hh9.mono (hide.grow s10), sgn.at_ (by rw [hide.at_ npa]) (Nw.hd e9) (hh9.mono (hide.grow s10))⟩
    have dw10 := dw9.same s10
    have hak10 := s10 _ _ (hide.to _ _ hak)
    clear sgn npa e9 np ndx hh9 dw9 kk rr allr har hrlen el hak
    intro d nd
    have nda : d ≠ a := fun e => by
      obtain ⟨_, _, q⟩ := dw10.st
      rw [← e, nd] at q
      cases q
    have wsz := wd_size wy
    have keep : ∀ {G : Hp} {o : HO}, But a H10 G → Dw K a b ns G → Dw K a b ns (upd G d o) := fun {G o} bu dw => dw.set dw10 nd (bu.put nd)
    refine ⟨_, rfl, ak, _, rfl, .inl (SqL.of (Same.new nd _ _ hak10)), ((2 ^ L : Nat) : Int), congrArg (fun q => [V.int q]) (congrArg (fun (q : Nat) => (q : Int)) hklen), (n62 (by omega)).1, (n62 (by omega)).2, ?_⟩
    refine for_it (walk_rng (n := ((2 ^ L : Nat) : Int).toNat)) (fun t σ G => But a H10 G ∧ Dw K a b ns G ∧ (∃ sd, G d = some (.dK (sdm sd)) ∧ Sdd y t sd) ∧ ∃ v9, σ = [some (.ref b), some (.ref a), some (.int y), some (.ref h), some (.int x), some (.ref ak), some (.ref ar), some (.ref p), some (.ref d), v9, none, none, none, none, none, none, none, none])
      ⟨But.refl.put nd, keep .refl dw10, ⟨[], upd_same, .nil⟩, none, rfl⟩ tr3 ?_ ?_
    · rintro t u σ G G' ht ⟨bu, dw, ⟨sd, hd, ok⟩, v9, rfl⟩ ⟨rfl, rfl⟩
      have ht : t < 2 ^ L := ht
      refine ⟨_, rfl, _, rfl, ?_⟩
      obtain ⟨i0, z0, e0⟩ := dw.st
      refine ⟨a, b, i0, z0, 2, ns, rfl, e0, dw.sq, h63, ne, by decide, by decide, fun c i1 z1 c0 c1 => ?_⟩
      obtain ⟨G1, e1, b1, dw1⟩ := dw.step i1 z1
      rw [← e1]
      clear e1 e0
      have bu1 := bu.trans b1
      have hd1 := b1 _ _ nda hd
      refine ⟨rfl, _, rfl, ite2 (fun _ => ?_) (fun _ => ⟨bu1, dw1, ⟨sd, hd1, ok.up⟩, _, rfl⟩)⟩
      refine ⟨_, rfl, _, rfl, _, rfl, _, _, rfl, rfl, cpow1w wy, ?_⟩
      obtain ⟨i0, z0, e0⟩ := dw1.st
      refine ⟨a, b, i0, z0, _, ns, rfl, e0, dw1.sq, h63, ne, wsz.1, wsz.2, fun m i1 z1 m0 m1 => ?_⟩
      obtain ⟨G2, e1, b2, dw2⟩ := dw1.step i1 z1
      rw [← e1]
      clear e1 e0
      have bu2 := bu1.trans b2
      have hd2 := b2 _ _ nda hd1
      have vn : valV (sdm sd) (Sum.inl ((t : Nat) : Int)) = none := by rw [valV_sd, ok.no]; rfl
      have lsd := ok.len
      refine ⟨_, rfl, _, rfl, d, _, rfl, DPut.k (k := Sum.inl ((t : Nat) : Int)) hd2 (sz2 (by rw [List.length_map]; omega)), ?_⟩
      refine ⟨bu2.put nd, keep bu2 dw2, ⟨sd ++ [((t : Int), m)], ?_, ok.add m0 (by rw [Int.one_mul] at m1; exact m1)⟩, _, rfl⟩
      rw [upd_same, putK_new _ vn]
      simp [sdm]
    rintro σ Hc ⟨bu, dwc, ⟨sd, hdc, ok⟩, v9, rfl⟩
    have lw := lw.but bu
    have hdc : hide Hc a d = some (.dK (sdm sd)) := by rw [hide.at_ nda]; exact hdc
    clear keep nd nda bu hak10 dw10 s10 hklen allk
    refine ⟨_, rfl, (n62 (n := 12) (by decide)).1, (n62 (n := 12) (by decide)).2, ?_⟩
    refine for_it (walk_rng (n := (12 : Int).toNat)) (fun t σ G => But a Hc G ∧ Dw K a b ns G ∧ ∃ v10 v11 v12 v13 v14 v15 v16 v17, σ = [some (.ref b), some (.ref a), some (.int y), some (.ref h), some (.int x), some (.ref ak), some (.ref ar), some (.ref p), some (.ref d), v9, v10, v11, v12, v13, v14, v15, v16, v17])
      ⟨.refl, dwc, none, none, none, none, none, none, none, none, rfl⟩ tr3 ?_ ?_
    · rintro t u σ G G' ht ⟨bu, dw, v10, v11, v12, v13, v14, v15, v16, v17, rfl⟩ ⟨rfl, rfl⟩
      clear ht
      refine ⟨_, rfl, _, rfl, _, rfl, _, _, rfl, rfl, cpow1w wy, ?_⟩
      obtain ⟨i0, z0, e0⟩ := dw.st
      refine ⟨a, b, i0, z0, _, ns, rfl, e0, dw.sq, h63, ne, wsz.1, wsz.2, fun m i1 z1 m0 m1 => ?_⟩
      obtain ⟨G1, e1, b1, dw1⟩ := dw.step i1 z1
      rw [← e1]
      clear e1 e0
      rw [Int.one_mul] at m1
      have lw1 := (lw.but bu).but b1
      have bu1 := bu.trans b1
      obtain ⟨i0, z0, e0⟩ := dw1.st
      refine ⟨_, rfl, _, rfl, _, rfl, _, rfl, _, rfl, _, rfl, a, b, i0, z0, y, x, m, L, ns, _, _, rfl, e0, dw1.sq, h63, ne, wy, hL, lw1.kk, lw1.rr, fun G2 i2 z2 g sg b2 e2 lo hi hg => ?_⟩
      have hg : G2 g = some (.tup (sg.map V.int)) := hg
      have e2 : G2 a = some (.lst [.int i2, .int z2]) := e2
      have dw2 : Dw K a b ns G2 := ⟨⟨i2, z2, e2⟩, b2.sq ne dw1.sq, h63, ne⟩
      have bu2 := bu1.trans b2
      have lw2 := lw1.but b2
      have hd2 := hide.to _ _ (bu2.hid _ _ hdc)
      clear lw1 bu1 b1 b2 dw1 dw e0 bu
      have g0 : (sg.map V.int)[0]? = some (.int (sx sg 0)) := by
        rw [List.getElem?_map, sx_at (by omega)]
        rfl
      obtain ⟨o, q, dg, eo, hq⟩ : ∃ o q, DGet G2 d (V.int (sx sg 0)) o ∧ V.int q = o.getD (V.int (-1)) ∧ (q ≠ m → sd.lookup (sx sg 0) ≠ some m) := by
        refine ⟨(sd.lookup (sx sg 0)).map V.int, (sd.lookup (sx sg 0)).getD (-1), valV_sd (sx sg 0) sd ▸ DGet.k (k := Sum.inl (sx sg 0)) hd2, ?_, fun n e => ?_⟩
        · cases sd.lookup (sx sg 0) <;> rfl
        · rw [e] at n
          exact n rfl
      refine ⟨_, rfl, d, rfl, .inl ⟨_, .of hd2⟩, _, rfl, g, _, ((0 : Nat) : Int), _, rfl, rfl, SqT.of hg, atI_nat g0, _, rfl, o, dg, ?_⟩
      generalize hu : o.getD _ = u
      obtain rfl : u = V.int q := hu.symm.trans eo.symm
      clear hu
      refine ⟨_, rfl, rfl, _, rfl, ite2 (fun c => ?_) (fun _ => ⟨bu2, dw2, _, _, _, _, _, _, _, _, rfl⟩)⟩
      have hne : sd.lookup (sx sg 0) ≠ some m := hq fun e => by
        rw [e] at c
        simp at c
      clear c hq dg eo
      refine ⟨_, rfl, _, rfl, _, rfl, y, x, L, _, rfl, wy, hL, rows_mono hide.to lw2.rr, fun G3 s3 => ?_⟩
      refine ⟨_, rfl, _, rfl, g, y, m, pub y x L, sg, rfl, wy, s3 _ _ hg, lo, hi, fun G4 s4 => ?_⟩
      have s24 := s3.trans s4
      have lw4 := lw2.but (Same.but s24)
      obtain ⟨dxp, fs, hp, vw, vr, ep, _, _, _, _, _, _, epub⟩ := (lw4.ss.mono hide.to).ex
      generalize hB : (shapeOk y sg && decide (lastD y m sg = pub y x L)) = B
      refine ⟨_, rfl, _, rfl, p, CS, dxp, fs, _, rfl, ep, T.cS, T.nS6, epub, _, rfl, _, rfl, h, g, y, m, pub y x L, sg, rfl, lw4.hh.mono hide.to, wy, s24 _ _ hg, lo, hi, fun G5 s5 => ?_⟩
      rw [hB]
      clear ep epub
      refine ⟨_, rfl, ?_, _, rfl, ite2 (fun c => ?_) (fun _ => ?_)⟩
      · cases B <;> rfl
      · simp at c
      have s25 := s24.trans s5
      have hd5 := s25 _ _ hd2
      refine ⟨_, rfl, d, _, rfl, .of hd5, fun k nk => ?_⟩
      have s6 : Same G2 (upd G5 k (.dK (sdm sd))) := s25.trans (Same.new nk)
      have lw6 := lw2.but (Same.but s6)
      refine ⟨_, rfl, _, rfl, _, rfl, _, rfl, p, k, g, y, x, m, L, sd, sg, rfl, lw6.ss.mono hide.to, wy, nx, hL, upd_same, s6 _ _ hg, lo, hi, fun G7 v s7 r => ?_⟩
      have s27 := s6.trans s7
      have lw7 := lw2.but (Same.but s27)
      have dw7 := dw2.same s27
      have bu7 := bu2.trans (Same.but s27)
      have hd7 := s27 _ _ hd2
      have hk7 := s7 _ _ (upd_same (H := G5) (a := k) (o := .dK (sdm sd)))
      have hg7 := s27 _ _ hg
      clear lw6 lw4 s6 s5 s25 hd5 nk s24 s3 s4
      have flt : ∀ e ∈ sdm sd, valV (sdm sd) e.1 = some e.2 ∧ flatB e.2 = true := fun e he => by
        obtain ⟨u, hu, rfl⟩ := List.mem_map.mp he
        exact ⟨by rw [valV_sd, ok.ok u hu]; rfl, rfl⟩
      cases B with
      | false =>
        have hv : validB y x L m sg = false := hB
        rw [hv, if_neg (by decide)] at r
        obtain rfl : v = .non := r
        exact ⟨_, rfl, _, rfl, iteT ⟨_, rfl, _, rfl, ite2 (fun c => by simp at c) fun _ => ⟨_, rfl, _, rfl, k, d, _, _, rfl, rfl, hk7, hd7, rfl, flt, _, rfl, iteF ⟨_, rfl, _, rfl, iteF ⟨bu7, dw7, _, _, _, _, _, _, _, _, rfl⟩⟩⟩⟩⟩
      | true =>
        have hv : validB y x L m sg = true := hB
        rw [hv, if_pos rfl] at r
        have good := due_good wy hL ⟨m0, m1⟩ ok.sd hne (Valid.of hv)
        have nn : v ≠ .non := fun e => by
          rw [e] at r
          rcases good with ⟨_, _, e, _⟩ | ⟨_, _, _, _, e⟩
          · rw [e] at r
            obtain ⟨_, _, _, q, _⟩ := r
            cases q
          · rw [e] at r
            obtain ⟨_, q, _⟩ := r
            cases q
        refine ⟨_, rfl, _, rfl, iteF (iteF ⟨_, rfl, _, rfl, k, d, _, _, rfl, rfl, hk7, hd7, rfl, flt, _, rfl, iteF ⟨_, rfl, _, rfl, iteT ?_⟩⟩)⟩
        refine ⟨_, rfl, _, rfl, ite2 (fun c => (nn (of_decide_eq_true c)).elim) fun _ => ?_⟩
        refine ⟨_, rfl, _, rfl, _, rfl, _, rfl, _, rfl, _, rfl, _, rfl, d, g, y, x, m, L, sd, sg, _, _, rfl, wy, hL, keys_mono hide.to lw7.kk, rows_mono hide.to lw7.rr, hd7, hg7, hv, fun G8 v' s8 r' => ?_⟩
        have r := AnsR.mono _ _ _ _ s8 r
        have lw8 := lw7.but (Same.but s8)
        have dw8 := dw7.same s8
        have bu8 := bu7.trans (Same.but s8)
        refine ⟨dAns _, dAns _, r.dp, r'.dp, sh_ans _, sh_ans _, _, rfl, ite2 (fun c => by rw [eq_same] at c; cases c) fun _ => ?_⟩
        clear r' nn flt lw7 dw7 bu7 hk7 hd7 hg7 hv
        rcases good with ⟨A, B, e, real⟩ | ⟨i, c, dd, xx, e⟩
        · rw [e] at r
          have rr := r
          obtain ⟨q, va, vb, rfl, hq, ra, rb⟩ := r
          have ecut : cutV [V.str "collision", va, vb] (some (1 : Int)) none = [va, vb] := (cut_tail (xs := [V.str "collision", va, vb]) (a := 1) (by show 1 ≤ 3; decide)).trans rfl
          refine ⟨_, rfl, q, _, ((0 : Nat) : Int), _, rfl, rfl, SqT.of hq, atI_nat rfl, rfl, _, rfl, ite2 (fun _ => ?_) (fun c => (c (decide_eq_true rfl)).elim)⟩
          refine ⟨_, rfl, _, rfl, q, _, rfl, SqT.of hq, cut_ne (a := 1) (by decide) (by show 0 < 3; decide), fun u nu => ?_⟩
          rw [ecut]
          have s9 := Same.new (o := HO.tup [va, vb]) nu
          refine ⟨u, _, rfl, SqT.of upd_same, rfl, _, _, rfl, _, _, rfl, rfl, ?_⟩
          have ra := in1_mono s9 ra
          have rb := in1_mono s9 rb
          have rr := AnsR.mono _ _ _ _ s9 rr
          have lw9 := lw8.but (Same.but s9)
          have dw9 := dw8.same s9
          have bu9 := bu8.trans (Same.but s9)
          obtain ⟨G9, e9⟩ : ∃ G9, G9 = upd G8 u (.tup [va, vb]) := ⟨_, rfl⟩
          rw [← e9] at ra rb rr lw9 dw9 bu9
          refine Eq.mp (congrArg _ e9) ?_
          clear e9 s9 lw8 dw8 bu8 hq
          obtain ⟨p1, q1, rfl, ha1, ha2⟩ := ra
          obtain ⟨p2, q2, rfl, hb1, hb2⟩ := rb
          obtain ⟨ed, _, ia, ib⟩ := id real
          refine ⟨_, rfl, _, rfl, p1, _, ((0 : Nat) : Int), _, rfl, rfl, SqT.of ha1, atI_nat rfl, _, rfl, p1, _, ((1 : Nat) : Int), _, rfl, rfl, SqT.of ha1, atI_nat rfl, q1, y, A.1, A.2, rfl, wy, .inr (SqT.of ha2), ia.sm, fun G10 s10 => ?_⟩
          have hb1 := s10 _ _ hb1
          refine ⟨_, rfl, _, rfl, p2, _, ((0 : Nat) : Int), _, rfl, rfl, SqT.of hb1, atI_nat rfl, _, rfl, p2, _, ((1 : Nat) : Int), _, rfl, rfl, SqT.of hb1, atI_nat rfl, q2, y, B.1, B.2, rfl, wy, .inr (SqT.of (s10 _ _ hb2)), ib.sm, fun G11 s11 => ?_⟩
          have s911 := s10.trans s11
          refine ⟨rfl, _, rfl, ite2 (fun c => ?_) (fun _ => ?_)⟩
          · rw [show V.int (dig y A.1 A.2) = V.int (dig y B.1 B.2) from congrArg V.int ed] at c
            simp at c
          refine ⟨_, rfl, _, rfl, h, y, _, A, B, rfl, (lw9.hh.mono hide.to).mono s911, wy, AnsR.mono _ _ _ _ s911 rr, real, fun G12 s12 => ⟨_, rfl, iteF ?_⟩⟩
          have s912 := s911.trans s12
          exact ⟨bu9.trans (Same.but s912), dw9.same s912, _, _, _, _, _, _, _, _, rfl⟩
        · rw [e] at r
          obtain ⟨q, rfl, hq⟩ := r
          exact ⟨_, rfl, q, _, ((0 : Nat) : Int), _, rfl, rfl, SqT.of hq, atI_nat rfl, rfl, _, rfl, ite2 (fun c => by exact absurd (V.str.inj (of_decide_eq_true c)) (by decide +kernel)) fun _ => ⟨bu8, dw8, _, _, _, _, _, _, _, _, rfl⟩⟩
    · rintro σ G ⟨_, _, v10, v11, v12, v13, v14, v15, v16, v17, rfl⟩
      exact k _
end
end K11
namespace K11
open PySem L2
/-! the defs joined -/
structure FA (K : PySem.W.Frag) (mg : Str → Option Value) (x : Str) (st : Stmt) : Prop where
  ex : ∃ f fd, Fun K x x st f fd ∧ mg x = some (.ref f)
structure MA (K : PySem.W.Frag) (C : Addr) (x qual : Str) (st : Stmt) : Prop where
  ex : ∃ f fd, Fun K x qual st f fd ∧ Meth K C x f
structure IA (K : PySem.W.Frag) (C : Addr) (qual : Str) (st : Stmt) : Prop where
  ex : ∃ f fd, Fun K "__init__" qual st f fd ∧ Mk K C f
section
variable {P : Program} {w : World} {K : PySem.W.Frag} {mg : Str → Option Value} {CH CS : Addr} {f : Addr} {fd : FuncData}
theorem b_limbs_of (F : Fun K "limbs_of" "limbs_of" s_limbs_of f fd) : Binds K fd ["numbers"] [] := F.binds fun _ _ _ _ _ _ us hl => match us, hl with | [_], _ => rfl
theorem b_Hasher_init (F : Fun K "__init__" "Hasher.__init__" s_Hasher_init f fd) : Binds K fd ["self", "width"] [] := F.binds fun _ _ _ _ _ _ us hl => match us, hl with | [_, _], _ => rfl
theorem b_Hasher_digest (F : Fun K "digest" "Hasher.digest" s_Hasher_digest f fd) : Binds K fd ["self", "tag", "numbers"] [] := F.binds fun _ _ _ _ _ _ us hl => match us, hl with | [_, _, _], _ => rfl
theorem b_Hasher_is_digest (F : Fun K "is_digest" "Hasher.is_digest" s_Hasher_is_digest f fd) : Binds K fd ["self", "number"] [] := F.binds fun _ _ _ _ _ _ us hl => match us, hl with | [_, _], _ => rfl
theorem b_collision (F : Fun K "collision" "collision" s_collision f fd) : Binds K fd ["first", "second"] [] := F.binds fun _ _ _ _ _ _ us hl => match us, hl with | [_, _], _ => rfl
theorem b_is_input (F : Fun K "is_input" "is_input" s_is_input f fd) : Binds K fd ["answer"] [] := F.binds fun _ _ _ _ _ _ us hl => match us, hl with | [_], _ => rfl
theorem b_digit_counts (F : Fun K "digit_counts" "digit_counts" s_digit_counts f fd) : Binds K fd ["width"] [] := F.binds fun _ _ _ _ _ _ us hl => match us, hl with | [_], _ => rfl
theorem b_digits_of (F : Fun K "digits_of" "digits_of" s_digits_of f fd) : Binds K fd ["width", "message"] [] := F.binds fun _ _ _ _ _ _ us hl => match us, hl with | [_, _], _ => rfl
theorem b_stepped (F : Fun K "stepped" "stepped" s_stepped f fd) : Binds K fd ["hasher", "index", "chain", "word", "first", "last"] [] := F.binds fun _ _ _ _ _ _ us hl => match us, hl with | [_, _, _, _, _, _], _ => rfl
theorem b_key_digest (F : Fun K "key_digest" "key_digest" s_key_digest f fd) : Binds K fd ["hasher", "index", "tops"] [] := F.binds fun _ _ _ _ _ _ us hl => match us, hl with | [_, _, _], _ => rfl
theorem b_law_digest (F : Fun K "_law_digest" "_law_digest" s_law_digest f fd) : Binds K fd ["_law_width", "_law_tag", "_law_numbers"] [] := F.binds fun _ _ _ _ _ _ us hl => match us, hl with | [_, _, _], _ => rfl
theorem b_law_digits (F : Fun K "_law_digits" "_law_digits" s_law_digits f fd) : Binds K fd ["_law_width", "_law_message"] [] := F.binds fun _ _ _ _ _ _ us hl => match us, hl with | [_, _], _ => rfl
theorem b_law_step (F : Fun K "_law_step" "_law_step" s_law_step f fd) : Binds K fd ["_law_width", "_law_index", "_law_chain", "_law_step_here", "_law_word"] [] := F.binds fun _ _ _ _ _ _ us hl => match us, hl with | [_, _, _, _, _], _ => rfl
theorem b_law_words (F : Fun K "_law_words" "_law_words" s_law_words f fd) : Binds K fd ["_law_width", "_law_secret", "_law_index", "_law_chain"] [] := F.binds fun _ _ _ _ _ _ us hl => match us, hl with | [_, _, _, _], _ => rfl
theorem b_Signer_chains (F : Fun K "chains" "Signer.chains" s_Signer_chains f fd) : Binds K fd ["self"] [] := F.binds fun _ _ _ _ _ _ us hl => match us, hl with | [_], _ => rfl
theorem b_Signer_key_words (F : Fun K "key_words" "Signer.key_words" s_Signer_key_words f fd) : Binds K fd ["self", "index"] [] := F.binds fun _ _ _ _ _ _ us hl => match us, hl with | [_, _], _ => rfl
theorem b_Signer_word (F : Fun K "word" "Signer.word" s_Signer_word f fd) : Binds K fd ["self", "index", "chain", "step"] [] := F.binds fun _ _ _ _ _ _ us hl => match us, hl with | [_, _, _, _], _ => rfl
theorem b_Signer_tops (F : Fun K "tops" "Signer.tops" s_Signer_tops f fd) : Binds K fd ["self", "index"] [] := F.binds fun _ _ _ _ _ _ us hl => match us, hl with | [_, _], _ => rfl
theorem b_Signer_init (F : Fun K "__init__" "Signer.__init__" s_Signer_init f fd) : Binds K fd ["self", "hasher", "secret", "levels"] [] := F.binds fun _ _ _ _ _ _ us hl => match us, hl with | [_, _, _, _], _ => rfl
theorem b_levels_of (F : Fun K "levels_of" "levels_of" s_levels_of f fd) : Binds K fd ["hasher", "signature"] [] := F.binds fun _ _ _ _ _ _ us hl => match us, hl with | [_, _], _ => rfl
theorem b_inputs_of (F : Fun K "inputs_of" "inputs_of" s_inputs_of f fd) : Binds K fd ["hasher", "message", "signature"] [] := F.binds fun _ _ _ _ _ _ us hl => match us, hl with | [_, _, _], _ => rfl
theorem b_verify (F : Fun K "verify" "verify" s_verify f fd) : Binds K fd ["hasher", "public", "message", "signature"] [] := F.binds fun _ _ _ _ _ _ us hl => match us, hl with | [_, _, _, _], _ => rfl
theorem b_true_inputs (F : Fun K "true_inputs" "true_inputs" s_true_inputs f fd) : Binds K fd ["signer", "index"] [] := F.binds fun _ _ _ _ _ _ us hl => match us, hl with | [_, _], _ => rfl
theorem b_merged (F : Fun K "merged" "merged" s_merged f fd) : Binds K fd ["signer", "index", "chain", "step", "word"] [] := F.binds fun _ _ _ _ _ _ us hl => match us, hl with | [_, _, _, _, _], _ => rfl
theorem b_chain_break (F : Fun K "chain_break" "chain_break" s_chain_break f fd) : Binds K fd ["signer", "signed", "message", "signature"] [] := F.binds fun _ _ _ _ _ _ us hl => match us, hl with | [_, _, _, _], _ => rfl
theorem b_is_collision (F : Fun K "is_collision" "is_collision" s_is_collision f fd) : Binds K fd ["hasher", "answer"] [] := F.binds fun _ _ _ _ _ _ us hl => match us, hl with | [_, _], _ => rfl
theorem b_signing_break (F : Fun K "signing_break" "signing_break" s_signing_break f fd) : Binds K fd ["signer", "signed", "message", "signature"] [] := F.binds fun _ _ _ _ _ _ us hl => match us, hl with | [_, _, _, _], _ => rfl
theorem b_law_keys (F : Fun K "_law_keys" "_law_keys" s_law_keys f fd) : Binds K fd ["_law_width", "_law_secret", "_law_levels"] [] := F.binds fun _ _ _ _ _ _ us hl => match us, hl with | [_, _, _], _ => rfl
theorem b_law_public (F : Fun K "_law_public" "_law_public" s_law_public f fd) : Binds K fd ["_law_width", "_law_rows_here"] [] := F.binds fun _ _ _ _ _ _ us hl => match us, hl with | [_, _], _ => rfl
theorem b_law_signed (F : Fun K "_law_signed" "_law_signed" s_law_signed f fd) : Binds K fd ["_law_width", "_law_keys_here", "_law_rows_here", "_law_index", "_law_message"] [] := F.binds fun _ _ _ _ _ _ us hl => match us, hl with | [_, _, _, _, _], _ => rfl
theorem b_law_rows (F : Fun K "_law_rows" "_law_rows" s_law_rows f fd) : Binds K fd ["_law_width", "_law_keys_here"] [] := F.binds fun _ _ _ _ _ _ us hl => match us, hl with | [_, _], _ => rfl
theorem b_law_true (F : Fun K "_law_true" "_law_true" s_law_true f fd) : Binds K fd ["_law_width", "_law_keys_here", "_law_rows_here", "_law_index"] [] := F.binds fun _ _ _ _ _ _ us hl => match us, hl with | [_, _, _, _], _ => rfl
theorem b_law_meeting (F : Fun K "_law_meeting" "_law_meeting" s_law_meeting f fd) : Binds K fd ["_law_width", "_law_keys_here", "_law_index", "_law_chain", "_law_step_here", "_law_word"] [] := F.binds fun _ _ _ _ _ _ us hl => match us, hl with | [_, _, _, _, _, _], _ => rfl
theorem b_law_inputs (F : Fun K "_law_inputs" "_law_inputs" s_law_inputs f fd) : Binds K fd ["_law_width", "_law_message", "_law_signature"] [] := F.binds fun _ _ _ _ _ _ us hl => match us, hl with | [_, _, _], _ => rfl
theorem b_law_valid (F : Fun K "_law_valid" "_law_valid" s_law_valid f fd) : Binds K fd ["_law_width", "_law_public_here", "_law_message", "_law_signature"] [] := F.binds fun _ _ _ _ _ _ us hl => match us, hl with | [_, _, _, _], _ => rfl
theorem b_law_due (F : Fun K "_law_due" "_law_due" s_law_due f fd) : Binds K fd ["_law_width", "_law_keys_here", "_law_rows_here", "_law_signed_here", "_law_message", "_law_signature"] [] := F.binds fun _ _ _ _ _ _ us hl => match us, hl with | [_, _, _, _, _, _], _ => rfl
theorem b_law_draw (F : Fun K "_law_draw" "_law_draw" s_law_draw f fd) : Binds K fd ["_law_state", "_law_script", "_law_size"] [] := F.binds fun _ _ _ _ _ _ us hl => match us, hl with | [_, _, _], _ => rfl
theorem b_law_forged (F : Fun K "_law_forged" "_law_forged" s_law_forged f fd) : Binds K fd ["_law_state", "_law_script", "_law_width", "_law_keys_here", "_law_rows_here", "_law_message"] [] := F.binds fun _ _ _ _ _ _ us hl => match us, hl with | [_, _, _, _, _, _], _ => rfl
theorem b_law (F : Fun K "law" "law" s_law f fd) : Binds K fd ["_law_script"] [] := F.binds fun _ _ _ _ _ _ us hl => match us, hl with | [_], _ => rfl
theorem all_ok {fa : Addr} (hfa : mg "law" = some (.ref fa)) (T : Tx K mg CH CS) (gH : mg "Hasher" = some (.ref CH)) (gS : mg "Signer" = some (.ref CS))
    (A_limbs_of : FA K mg "limbs_of" s_limbs_of)
    (A_Hasher_init : IA K CH "Hasher.__init__" s_Hasher_init)
    (A_Hasher_digest : MA K CH "digest" "Hasher.digest" s_Hasher_digest)
    (A_Hasher_is_digest : MA K CH "is_digest" "Hasher.is_digest" s_Hasher_is_digest)
    (A_collision : FA K mg "collision" s_collision)
    (A_is_input : FA K mg "is_input" s_is_input)
    (A_digit_counts : FA K mg "digit_counts" s_digit_counts)
    (A_digits_of : FA K mg "digits_of" s_digits_of)
    (A_stepped : FA K mg "stepped" s_stepped)
    (A_key_digest : FA K mg "key_digest" s_key_digest)
    (A_law_digest : FA K mg "_law_digest" s_law_digest)
    (A_law_digits : FA K mg "_law_digits" s_law_digits)
    (A_law_step : FA K mg "_law_step" s_law_step)
    (A_law_words : FA K mg "_law_words" s_law_words)
    (A_Signer_chains : MA K CS "chains" "Signer.chains" s_Signer_chains)
    (A_Signer_key_words : MA K CS "key_words" "Signer.key_words" s_Signer_key_words)
    (A_Signer_word : MA K CS "word" "Signer.word" s_Signer_word)
    (A_Signer_tops : MA K CS "tops" "Signer.tops" s_Signer_tops)
    (A_Signer_init : IA K CS "Signer.__init__" s_Signer_init)
    (A_levels_of : FA K mg "levels_of" s_levels_of)
    (A_inputs_of : FA K mg "inputs_of" s_inputs_of)
    (A_verify : FA K mg "verify" s_verify)
    (A_true_inputs : FA K mg "true_inputs" s_true_inputs)
    (A_merged : FA K mg "merged" s_merged)
    (A_chain_break : FA K mg "chain_break" s_chain_break)
    (A_is_collision : FA K mg "is_collision" s_is_collision)
    (A_signing_break : FA K mg "signing_break" s_signing_break)
    (A_law_keys : FA K mg "_law_keys" s_law_keys)
    (A_law_public : FA K mg "_law_public" s_law_public)
    (A_law_signed : FA K mg "_law_signed" s_law_signed)
    (A_law_rows : FA K mg "_law_rows" s_law_rows)
    (A_law_true : FA K mg "_law_true" s_law_true)
    (A_law_meeting : FA K mg "_law_meeting" s_law_meeting)
    (A_law_inputs : FA K mg "_law_inputs" s_law_inputs)
    (A_law_valid : FA K mg "_law_valid" s_law_valid)
    (A_law_due : FA K mg "_law_due" s_law_due)
    (A_law_draw : FA K mg "_law_draw" s_law_draw)
    (A_law_forged : FA K mg "_law_forged" s_law_forged)
    (A_law : FA K mg "law" s_law)
    : ∃ fd : FuncData, (∀ (s : Shared) (v : Value), BindsTo s fd ⟨[v], []⟩ [("_law_script", v)]) ∧ ∀ base : Heap, FnOk P w K mg base CX0 8 fa fd ["_law_script"] (spLaw K) := by
  obtain ⟨f_limbs_of, fd_limbs_of, F_limbs_of, g_limbs_of⟩ := A_limbs_of.ex
  obtain ⟨f_Hasher_init, fd_Hasher_init, F_Hasher_init, g_Hasher_init⟩ := A_Hasher_init.ex
  obtain ⟨f_Hasher_digest, fd_Hasher_digest, F_Hasher_digest, g_Hasher_digest⟩ := A_Hasher_digest.ex
  obtain ⟨f_Hasher_is_digest, fd_Hasher_is_digest, F_Hasher_is_digest, g_Hasher_is_digest⟩ := A_Hasher_is_digest.ex
  obtain ⟨f_collision, fd_collision, F_collision, g_collision⟩ := A_collision.ex
  obtain ⟨f_is_input, fd_is_input, F_is_input, g_is_input⟩ := A_is_input.ex
  obtain ⟨f_digit_counts, fd_digit_counts, F_digit_counts, g_digit_counts⟩ := A_digit_counts.ex
  obtain ⟨f_digits_of, fd_digits_of, F_digits_of, g_digits_of⟩ := A_digits_of.ex
  obtain ⟨f_stepped, fd_stepped, F_stepped, g_stepped⟩ := A_stepped.ex
  obtain ⟨f_key_digest, fd_key_digest, F_key_digest, g_key_digest⟩ := A_key_digest.ex
  obtain ⟨f_law_digest, fd_law_digest, F_law_digest, g_law_digest⟩ := A_law_digest.ex
  obtain ⟨f_law_digits, fd_law_digits, F_law_digits, g_law_digits⟩ := A_law_digits.ex
  obtain ⟨f_law_step, fd_law_step, F_law_step, g_law_step⟩ := A_law_step.ex
  obtain ⟨f_law_words, fd_law_words, F_law_words, g_law_words⟩ := A_law_words.ex
  obtain ⟨f_Signer_chains, fd_Signer_chains, F_Signer_chains, g_Signer_chains⟩ := A_Signer_chains.ex
  obtain ⟨f_Signer_key_words, fd_Signer_key_words, F_Signer_key_words, g_Signer_key_words⟩ := A_Signer_key_words.ex
  obtain ⟨f_Signer_word, fd_Signer_word, F_Signer_word, g_Signer_word⟩ := A_Signer_word.ex
  obtain ⟨f_Signer_tops, fd_Signer_tops, F_Signer_tops, g_Signer_tops⟩ := A_Signer_tops.ex
  obtain ⟨f_Signer_init, fd_Signer_init, F_Signer_init, g_Signer_init⟩ := A_Signer_init.ex
  obtain ⟨f_levels_of, fd_levels_of, F_levels_of, g_levels_of⟩ := A_levels_of.ex
  obtain ⟨f_inputs_of, fd_inputs_of, F_inputs_of, g_inputs_of⟩ := A_inputs_of.ex
  obtain ⟨f_verify, fd_verify, F_verify, g_verify⟩ := A_verify.ex
  obtain ⟨f_true_inputs, fd_true_inputs, F_true_inputs, g_true_inputs⟩ := A_true_inputs.ex
  obtain ⟨f_merged, fd_merged, F_merged, g_merged⟩ := A_merged.ex
  obtain ⟨f_chain_break, fd_chain_break, F_chain_break, g_chain_break⟩ := A_chain_break.ex
  obtain ⟨f_is_collision, fd_is_collision, F_is_collision, g_is_collision⟩ := A_is_collision.ex
  obtain ⟨f_signing_break, fd_signing_break, F_signing_break, g_signing_break⟩ := A_signing_break.ex
  obtain ⟨f_law_keys, fd_law_keys, F_law_keys, g_law_keys⟩ := A_law_keys.ex
  obtain ⟨f_law_public, fd_law_public, F_law_public, g_law_public⟩ := A_law_public.ex
  obtain ⟨f_law_signed, fd_law_signed, F_law_signed, g_law_signed⟩ := A_law_signed.ex
  obtain ⟨f_law_rows, fd_law_rows, F_law_rows, g_law_rows⟩ := A_law_rows.ex
  obtain ⟨f_law_true, fd_law_true, F_law_true, g_law_true⟩ := A_law_true.ex
  obtain ⟨f_law_meeting, fd_law_meeting, F_law_meeting, g_law_meeting⟩ := A_law_meeting.ex
  obtain ⟨f_law_inputs, fd_law_inputs, F_law_inputs, g_law_inputs⟩ := A_law_inputs.ex
  obtain ⟨f_law_valid, fd_law_valid, F_law_valid, g_law_valid⟩ := A_law_valid.ex
  obtain ⟨f_law_due, fd_law_due, F_law_due, g_law_due⟩ := A_law_due.ex
  obtain ⟨f_law_draw, fd_law_draw, F_law_draw, g_law_draw⟩ := A_law_draw.ex
  obtain ⟨f_law_forged, fd_law_forged, F_law_forged, g_law_forged⟩ := A_law_forged.ex
  obtain ⟨f_law, fd_law, F_law, g_law⟩ := A_law.ex
  have e := hfa.symm.trans g_law
  cases e
  refine ⟨fd_law, fun s v => ?_, fun base => ?_⟩
  · obtain ⟨_, _, _, _, _, _, _, _, _, rfl, _, _⟩ := F_law.ex
    exact .of_eq rfl
  have c_limbs_of : C8.Cal P w K mg base 1 "limbs_of" (spLimbs K) [] := ⟨f_limbs_of, fd_limbs_of, _, [], ok_limbs_of F_limbs_of T, g_limbs_of, F_limbs_of.kp, b_limbs_of F_limbs_of, .nil⟩
  have c_Hasher : C8.Mak P w K mg base 1 "Hasher" CH (spHInit CH) [] := ⟨f_Hasher_init, fd_Hasher_init, _, [], g_Hasher_init, ok_Hasher_init F_Hasher_init T, gH, b_Hasher_init F_Hasher_init, .nil⟩
  have m_Hasher_digest : C8.Met P w K mg base 2 CH "digest" (spDigest K CH) [] := ⟨f_Hasher_digest, fd_Hasher_digest, _, [], T.cH, g_Hasher_digest, ok_Hasher_digest F_Hasher_digest T c_limbs_of, b_Hasher_digest F_Hasher_digest, .nil⟩
  have m_Hasher_is_digest : C8.Met P w K mg base 1 CH "is_digest" (spIsDig CH) [] := ⟨f_Hasher_is_digest, fd_Hasher_is_digest, _, [], T.cH, g_Hasher_is_digest, ok_Hasher_is_digest F_Hasher_is_digest T, b_Hasher_is_digest F_Hasher_is_digest, .nil⟩
  have c_collision : C8.Cal P w K mg base 1 "collision" spColl [] := ⟨f_collision, fd_collision, _, [], ok_collision F_collision T, g_collision, F_collision.kp, b_collision F_collision, .nil⟩
  have c_is_input : C8.Cal P w K mg base 1 "is_input" spIsInput [] := ⟨f_is_input, fd_is_input, _, [], ok_is_input F_is_input T, g_is_input, F_is_input.kp, b_is_input F_is_input, .nil⟩
  have c_digit_counts : C8.Cal P w K mg base 1 "digit_counts" spCounts [] := ⟨f_digit_counts, fd_digit_counts, _, [], ok_digit_counts F_digit_counts T, g_digit_counts, F_digit_counts.kp, b_digit_counts F_digit_counts, .nil⟩
  have c_digits_of : C8.Cal P w K mg base 2 "digits_of" spDigits [] := ⟨f_digits_of, fd_digits_of, _, [], ok_digits_of F_digits_of T c_digit_counts, g_digits_of, F_digits_of.kp, b_digits_of F_digits_of, .nil⟩
  have c_stepped : C8.Cal P w K mg base 3 "stepped" (spStepped CH) [] := ⟨f_stepped, fd_stepped, _, [], ok_stepped F_stepped T m_Hasher_digest, g_stepped, F_stepped.kp, b_stepped F_stepped, .nil⟩
  have c_key_digest : C8.Cal P w K mg base 3 "key_digest" (spKeyDig CH) [] := ⟨f_key_digest, fd_key_digest, _, [], ok_key_digest F_key_digest T m_Hasher_digest, g_key_digest, F_key_digest.kp, b_key_digest F_key_digest, .nil⟩
  have c_law_digest : C8.Cal P w K mg base 1 "_law_digest" (spLDigest K) [] := ⟨f_law_digest, fd_law_digest, _, [], ok_law_digest F_law_digest T, g_law_digest, F_law_digest.kp, b_law_digest F_law_digest, .nil⟩
  have c_law_digits : C8.Cal P w K mg base 1 "_law_digits" spDigits [] := ⟨f_law_digits, fd_law_digits, _, [], ok_law_digits F_law_digits T, g_law_digits, F_law_digits.kp, b_law_digits F_law_digits, .nil⟩
  have c_law_step : C8.Cal P w K mg base 2 "_law_step" spLStep [] := ⟨f_law_step, fd_law_step, _, [], ok_law_step F_law_step T c_law_digest, g_law_step, F_law_step.kp, b_law_step F_law_step, .nil⟩
  have c_law_words : C8.Cal P w K mg base 3 "_law_words" spLWords [] := ⟨f_law_words, fd_law_words, _, [], ok_law_words F_law_words T c_law_digest c_law_step, g_law_words, F_law_words.kp, b_law_words F_law_words, .nil⟩
  have m_Signer_chains : C8.Met P w K mg base 2 CS "chains" (spChains CH CS) [] := ⟨f_Signer_chains, fd_Signer_chains, _, [], T.cS, g_Signer_chains, ok_Signer_chains F_Signer_chains T c_digit_counts, b_Signer_chains F_Signer_chains, .nil⟩
  have m_Signer_key_words : C8.Met P w K mg base 4 CS "key_words" (spKeyWords CH CS) [] := ⟨f_Signer_key_words, fd_Signer_key_words, _, [], T.cS, g_Signer_key_words, ok_Signer_key_words F_Signer_key_words T m_Signer_chains m_Hasher_digest c_stepped, b_Signer_key_words F_Signer_key_words, .nil⟩
  have m_Signer_word : C8.Met P w K mg base 1 CS "word" (spWord CH CS) [] := ⟨f_Signer_word, fd_Signer_word, _, [], T.cS, g_Signer_word, ok_Signer_word F_Signer_word T, b_Signer_word F_Signer_word, .nil⟩
  have m_Signer_tops : C8.Met P w K mg base 3 CS "tops" (spTops CH CS) [] := ⟨f_Signer_tops, fd_Signer_tops, _, [], T.cS, g_Signer_tops, ok_Signer_tops F_Signer_tops T m_Signer_chains m_Signer_word, b_Signer_tops F_Signer_tops, .nil⟩
  have c_Signer : C8.Mak P w K mg base 5 "Signer" CS (spSInit CH CS) [] := ⟨f_Signer_init, fd_Signer_init, _, [], g_Signer_init, ok_Signer_init F_Signer_init T m_Signer_key_words m_Signer_tops m_Hasher_digest c_key_digest, gS, b_Signer_init F_Signer_init, .nil⟩
  have c_levels_of : C8.Cal P w K mg base 2 "levels_of" (spLevels CH) [] := ⟨f_levels_of, fd_levels_of, _, [], ok_levels_of F_levels_of T c_digit_counts m_Hasher_is_digest, g_levels_of, F_levels_of.kp, b_levels_of F_levels_of, .nil⟩
  have c_inputs_of : C8.Cal P w K mg base 4 "inputs_of" (spInputs CH) [] := ⟨f_inputs_of, fd_inputs_of, _, [], ok_inputs_of F_inputs_of T c_digits_of c_stepped m_Hasher_digest, g_inputs_of, F_inputs_of.kp, b_inputs_of F_inputs_of, .nil⟩
  have c_verify : C8.Cal P w K mg base 5 "verify" (spVerify CH) [] := ⟨f_verify, fd_verify, _, [], ok_verify F_verify T c_levels_of c_inputs_of m_Hasher_digest, g_verify, F_verify.kp, b_verify F_verify, .nil⟩
  have c_true_inputs : C8.Cal P w K mg base 4 "true_inputs" (spTrue CH CS) [] := ⟨f_true_inputs, fd_true_inputs, _, [], ok_true_inputs F_true_inputs T m_Signer_tops, g_true_inputs, F_true_inputs.kp, b_true_inputs F_true_inputs, .nil⟩
  have c_merged : C8.Cal P w K mg base 4 "merged" (spMerged CH CS) [] := ⟨f_merged, fd_merged, _, [], ok_merged F_merged T c_stepped m_Signer_word c_collision, g_merged, F_merged.kp, b_merged F_merged, .nil⟩
  have c_chain_break : C8.Cal P w K mg base 5 "chain_break" (spChainBreak CH CS) [] := ⟨f_chain_break, fd_chain_break, _, [], ok_chain_break F_chain_break T c_digits_of m_Signer_word c_merged, g_chain_break, F_chain_break.kp, b_chain_break F_chain_break, .nil⟩
  have c_is_collision : C8.Cal P w K mg base 3 "is_collision" (spIsColl CH) [] := ⟨f_is_collision, fd_is_collision, _, [], ok_is_collision F_is_collision c_is_input m_Hasher_digest, g_is_collision, F_is_collision.kp, b_is_collision F_is_collision, .nil⟩
  have c_signing_break : C8.Cal P w K mg base 6 "signing_break" (spBreak CH CS) [] := ⟨f_signing_break, fd_signing_break, _, [], ok_signing_break F_signing_break T c_verify c_inputs_of c_true_inputs c_collision c_chain_break, g_signing_break, F_signing_break.kp, b_signing_break F_signing_break, .nil⟩
  have c_law_keys : C8.Cal P w K mg base 4 "_law_keys" spLKeys [] := ⟨f_law_keys, fd_law_keys, _, [], ok_law_keys F_law_keys T c_law_digits c_law_words, g_law_keys, F_law_keys.kp, b_law_keys F_law_keys, .nil⟩
  have c_law_public : C8.Cal P w K mg base 2 "_law_public" spLPublic [] := ⟨f_law_public, fd_law_public, _, [], ok_law_public F_law_public T c_law_digest, g_law_public, F_law_public.kp, b_law_public F_law_public, .nil⟩
  have c_law_signed : C8.Cal P w K mg base 2 "_law_signed" spLSigned [] := ⟨f_law_signed, fd_law_signed, _, [], ok_law_signed F_law_signed T c_law_digits, g_law_signed, F_law_signed.kp, b_law_signed F_law_signed, .nil⟩
  have c_law_rows : C8.Cal P w K mg base 2 "_law_rows" spLRows [] := ⟨f_law_rows, fd_law_rows, _, [], ok_law_rows F_law_rows T c_law_digest, g_law_rows, F_law_rows.kp, b_law_rows F_law_rows, .nil⟩
  have c_law_true : C8.Cal P w K mg base 1 "_law_true" spLTrue [] := ⟨f_law_true, fd_law_true, _, [], ok_law_true F_law_true T, g_law_true, F_law_true.kp, b_law_true F_law_true, .nil⟩
  have c_law_meeting : C8.Cal P w K mg base 3 "_law_meeting" spLMeeting [] := ⟨f_law_meeting, fd_law_meeting, _, [], ok_law_meeting F_law_meeting c_law_step, g_law_meeting, F_law_meeting.kp, b_law_meeting F_law_meeting, .nil⟩
  have c_law_inputs : C8.Cal P w K mg base 3 "_law_inputs" spLInputs [] := ⟨f_law_inputs, fd_law_inputs, _, [], ok_law_inputs F_law_inputs T c_law_digits c_law_step c_law_digest, g_law_inputs, F_law_inputs.kp, b_law_inputs F_law_inputs, .nil⟩
  have c_law_valid : C8.Cal P w K mg base 4 "_law_valid" spLValid [] := ⟨f_law_valid, fd_law_valid, _, [], ok_law_valid F_law_valid T c_law_digits c_law_inputs c_law_digest, g_law_valid, F_law_valid.kp, b_law_valid F_law_valid, .nil⟩
  have c_law_due : C8.Cal P w K mg base 4 "_law_due" spLDue [] := ⟨f_law_due, fd_law_due, _, [], ok_law_due F_law_due T c_law_inputs c_law_true c_law_digits c_law_meeting, g_law_due, F_law_due.kp, b_law_due F_law_due, .nil⟩
  have c_law_draw : C8.Cal P w K mg base 1 "_law_draw" (spDraw K) [] := ⟨f_law_draw, fd_law_draw, _, [], ok_law_draw F_law_draw T, g_law_draw, F_law_draw.kp, b_law_draw F_law_draw, .nil⟩
  have c_law_forged : C8.Cal P w K mg base 3 "_law_forged" (spLForged K) [] := ⟨f_law_forged, fd_law_forged, _, [], ok_law_forged F_law_forged T c_law_draw c_law_signed, g_law_forged, F_law_forged.kp, b_law_forged F_law_forged, .nil⟩
  exact ok_law F_law T c_law_draw c_Hasher c_law_keys c_law_rows c_Signer c_law_forged c_law_valid c_law_public c_verify c_signing_break c_law_due c_law_digest c_is_collision
end
end K11
namespace K11
open PySem L2
/-! the hook to the head -/
section
variable {mg : Str → Option Value} {h : Heap} {K : PySem.W.Frag}
theorem fa_of {x : Str} {st : Stmt} {f : Addr} {oc : Value} {od an : Option Addr} {sl : Array (Option Value)} {kV doc pm cd ct : Value} (X : K.In h) (G : h.Ns mainGlobals mg) (a : PySem.W.nsIn K mainGlobals x = some (some (.ref f)))
    (l : K.lookup f = some ⟨oc, od, .func (PySem.W.fnOf x x (defArgs st) (defBody st) (defScope st) .none kV doc pm an cd ct), sl⟩) (c : PySem.W.codeIn K cd x = true) (k : PySem.W.keepIn K (.ref f) = true) : FA K mg x st :=
  ⟨⟨f, _, fun_mk (st := st) l c k, PySem.W.mg_of X G a⟩⟩
theorem ma_of {C : Addr} {x qual : Str} {st : Stmt} {f : Addr} {oc : Value} {od an : Option Addr} {sl : Array (Option Value)} {kV doc pm cd ct : Value} (a : PySem.W.findIn K (.ref C) x = some (some (.ref f))) (i : PySem.W.isFn K (.ref f) = true)
    (l : K.lookup f = some ⟨oc, od, .func (PySem.W.fnOf x qual (defArgs st) (defBody st) (defScope st) .none kV doc pm an cd ct), sl⟩) (c : PySem.W.codeIn K cd qual = true) (k : PySem.W.keepIn K (.ref f) = true) : MA K C x qual st :=
  ⟨⟨f, _, fun_mk (st := st) l c k, ⟨a, i, k⟩⟩⟩
theorem ia_of {C : Addr} {qual : Str} {st : Stmt} {f : Addr} {oc : Value} {od an : Option Addr} {sl : Array (Option Value)} {kV doc pm cd ct : Value} (mk : PySem.W.makesIn K C = true) (kc : PySem.W.keepIn K (.ref C) = true)
    (a : PySem.W.findIn K (.ref C) "__init__" = some (some (.ref f))) (i : PySem.W.isFn K (.ref f) = true)
    (l : K.lookup f = some ⟨oc, od, .func (PySem.W.fnOf "__init__" qual (defArgs st) (defBody st) (defScope st) .none kV doc pm an cd ct), sl⟩) (c : PySem.W.codeIn K cd qual = true) (k : PySem.W.keepIn K (.ref f) = true) : IA K C qual st :=
  ⟨⟨f, _, fun_mk (st := st) l c k, ⟨mk, a, i, kc⟩⟩⟩
theorem cn_of {x : Str} {i : Int} {t : Tok} (X : K.In h) (G : h.Ns mainGlobals mg) (a : PySem.W.nsIn K mainGlobals x = some (some (.int i t))) : Cn mg x i := ⟨_, PySem.W.mg_of X G a, t, rfl⟩
theorem no_of {x : Str} (X : K.In h) (G : h.Ns mainGlobals mg) (a : PySem.W.nsIn K mainGlobals x = some none) : mg x = none := PySem.W.mg_none_of X G a
theorem cn_lv {lv : List (Str × PySem.W.WData)} {x : Str} {i : Int} (L : PySem.W.LooseAre lv mg h) (m : (x, PySem.W.WData.int i) ∈ lv) : Cn mg x i := by
  obtain ⟨v, e, r⟩ := L.val _ m
  cases r with
  | int _ t => exact ⟨_, e, t, rfl⟩
end
/-- from the law's walk to the row's, the names that the top has worked out told too -/
theorem walkX {l : PySem.W.OpenLaw} {q : Program} {loose : List Str} {lv : List (Str × PySem.W.WData)} {YP : World → Heap → Prop} {d : DefRec} {KK : Params → PySem.W.Frag} (h63 : l.most = some 63) (noD : d.params.defaults = [])
    (inY : ∀ (w : World) (h : Heap), YP w h → (KK w.params).In h)
    (F : ∀ (w : World) (mg : Str → Option Value) (fa : Addr) (h : Heap), (KK w.params).In h → h.Ns mainGlobals mg → PySem.W.LooseAre lv mg h → mg d.name = some (.ref fa) →
      ∃ fd : FuncData, (∀ (s : Shared) (u : Value), BindsTo s fd ⟨[u], []⟩ [("_law_script", u)]) ∧ ∀ base : Heap, FnOk l.prog w (KK w.params) mg base CX0 8 fa fd ["_law_script"] (spLaw (KK w.params))) :
    PySem.W.WalkO q loose (PySem.W.XL q lv) YP l.row.toRowW d [] (fun f vs => PySem.call f vs) := by
  refine Att.attach_call h63 noD ?_
  intro w t0 t1 mg mb fa ob pm cd doc p vs ns GG YY _ _ _ law isL isI short free
  have inK := inY w _ YY
  obtain ⟨fd, bind, ok⟩ := F w mg fa _ inK GG.T.g GG.X.2 law
  have small : ns.length ≤ sizeLine := Nat.le_trans short (by decide)
  have room : Room 8 callerA := ⟨rfl, by decide, by decide⟩
  have asks : ∀ H : Hp, Only H → SqL (KK w.params) H p (ns.map V.int) → spLaw (KK w.params) [.ref p] H (fun v _ => v = .bl true) fun _ _ _ => False := fun H _ hS => ⟨p, ns, rfl, hS, short, fun _ => rfl⟩
  exact law_call inK GG.T.g GG.T.b GG.T.builtins GG.T.nolimit free isL isI small room (fun base _ _ => ok base) bind asks (fun H e u z => z)
theorem tx_of {K : PySem.W.Frag} {h : Heap} {mg : Str → Option Value} {CH CS : Addr} {lv : List (Str × PySem.W.WData)} (X : K.In h) (G : h.Ns mainGlobals mg) (L : PySem.W.LooseAre lv mg h)
    (z_len : PySem.W.nsIn K mainGlobals "len" = some none)
    (z_sum : PySem.W.nsIn K mainGlobals "sum" = some none)
    (z_all : PySem.W.nsIn K mainGlobals "all" = some none)
    (z_any : PySem.W.nsIn K mainGlobals "any" = some none)
    (z_min : PySem.W.nsIn K mainGlobals "min" = some none)
    (z_tuple : PySem.W.nsIn K mainGlobals "tuple" = some none)
    (z_list : PySem.W.nsIn K mainGlobals "list" = some none)
    (z_int : PySem.W.nsIn K mainGlobals "int" = some none)
    (z_dict : PySem.W.nsIn K mainGlobals "dict" = some none)
    (z_range : PySem.W.nsIn K mainGlobals "range" = some none)
    {t_FIRST : Tok} (n_FIRST : PySem.W.nsIn K mainGlobals "FIRST" = some (some (.int 7263541890216354987 t_FIRST)))
    {t_SECOND : Tok} (n_SECOND : PySem.W.nsIn K mainGlobals "SECOND" = some (some (.int 12985647301928374651 t_SECOND)))
    {t_ONE : Tok} (n_ONE : PySem.W.nsIn K mainGlobals "ONE" = some (some (.int 15241578750190521011 t_ONE)))
    {t_OTHER : Tok} (n_OTHER : PySem.W.nsIn K mainGlobals "OTHER" = some (some (.int 9764318250173649287 t_OTHER)))
    {t_WHOLE : Tok} (n_WHOLE : PySem.W.nsIn K mainGlobals "WHOLE" = some (some (.int 128 t_WHOLE)))
    {t_CHAIN : Tok} (n_CHAIN : PySem.W.nsIn K mainGlobals "CHAIN" = some (some (.int 4 t_CHAIN)))
    {t_KEY : Tok} (n_KEY : PySem.W.nsIn K mainGlobals "KEY" = some (some (.int 5 t_KEY)))
    {t_TREE : Tok} (n_TREE : PySem.W.nsIn K mainGlobals "TREE" = some (some (.int 6 t_TREE)))
    {t_SECRET : Tok} (n_SECRET : PySem.W.nsIn K mainGlobals "SECRET" = some (some (.int 7 t_SECRET)))
    {t_BASE : Tok} (n_BASE : PySem.W.nsIn K mainGlobals "BASE" = some (some (.int 16 t_BASE)))
    {t_MOST_LEVELS : Tok} (n_MOST_LEVELS : PySem.W.nsIn K mainGlobals "MOST_LEVELS" = some (some (.int 6 t_MOST_LEVELS)))
    (m_MASK : (("MASK" : Str), PySem.W.WData.int 18446744073709551615) ∈ lv) (m_LIMB : (("LIMB" : Str), PySem.W.WData.int 4294967295) ∈ lv)
    (pgH : PySem.W.plainGet K CH Str.empty = true) (hdH : PySem.W.hasDictIn K CH = true) (poH : PySem.W.plainOver K CH = true) (saH : PySem.W.findIn K (.ref CH) "__setattr__" = some (some (.builtin "object.__setattr__")))
    (pgS : PySem.W.plainGet K CS Str.empty = true) (hdS : PySem.W.hasDictIn K CS = true) (poS : PySem.W.plainOver K CS = true) (saS : PySem.W.findIn K (.ref CS) "__setattr__" = some (some (.builtin "object.__setattr__")))
    (nH : PySem.W.findIn K (.ref CH) "width" = some none)
    (nS1 : PySem.W.findIn K (.ref CS) "hasher" = some none)
    (nS2 : PySem.W.findIn K (.ref CS) "secret" = some none)
    (nS3 : PySem.W.findIn K (.ref CS) "levels" = some none)
    (nS4 : PySem.W.findIn K (.ref CS) "words" = some none)
    (nS5 : PySem.W.findIn K (.ref CS) "rows" = some none)
    (nS6 : PySem.W.findIn K (.ref CS) "public" = some none)
    : Tx K mg CH CS where
  len := no_of X G z_len
  sum := no_of X G z_sum
  all := no_of X G z_all
  any := no_of X G z_any
  min := no_of X G z_min
  tuple := no_of X G z_tuple
  list := no_of X G z_list
  int := no_of X G z_int
  dict := no_of X G z_dict
  range := no_of X G z_range
  gFIRST := cn_of X G n_FIRST
  gSECOND := cn_of X G n_SECOND
  gONE := cn_of X G n_ONE
  gOTHER := cn_of X G n_OTHER
  gWHOLE := cn_of X G n_WHOLE
  gCHAIN := cn_of X G n_CHAIN
  gKEY := cn_of X G n_KEY
  gTREE := cn_of X G n_TREE
  gSECRET := cn_of X G n_SECRET
  gBASE := cn_of X G n_BASE
  gMOST_LEVELS := cn_of X G n_MOST_LEVELS
  gMASK := cn_lv L m_MASK
  gLIMB := cn_lv L m_LIMB
  cH := ⟨pgH, hdH, poH, saH⟩
  cS := ⟨pgS, hdS, poS, saS⟩
  nH := nH
  nS1 := nS1
  nS2 := nS2
  nS3 := nS3
  nS4 := nS4
  nS5 := nS5
  nS6 := nS6
end K11
open PySem PySem.W PyProof.Rows
set_option maxRecDepth 100000 in
set_option maxHeartbeats 0 in
open_top hd for PySem.Challenge.rw_offing_k11_whole_breaks_of_signatures
open PySem PySem.W PyProof.Rows in
set_option maxRecDepth 100000 in
set_option maxHeartbeats 0 in
theorem PySem.Challenge.cw_offing_k11_whole_breaks_of_signatures_holds : PySem.Challenge.rw_offing_k11_whole_breaks_of_signatures.Holds := by
  refine hd ?_
  k_fill
  refine K11.walkX (l := PySem.Challenge.rw_offing_k11_whole_breaks_of_signatures) rfl rfl (fun w h Y => PySem.W.kIn_of Y) ?F
  case F =>
    intro w mg fa h X G L hfa
    refine' K11.all_ok hfa (K11.tx_of X G L ?z_len ?z_sum ?z_all ?z_any ?z_min ?z_tuple ?z_list ?z_int ?z_dict ?z_range ?n_FIRST ?n_SECOND ?n_ONE ?n_OTHER ?n_WHOLE ?n_CHAIN ?n_KEY ?n_TREE ?n_SECRET ?n_BASE ?n_MOST_LEVELS ?mM ?mL ?pgH ?hdH ?poH ?saH ?pgS ?hdS ?poS ?saS ?nH ?nS1 ?nS2 ?nS3 ?nS4 ?nS5 ?nS6) (PySem.W.mg_of X G ?gH) (PySem.W.mg_of X G ?gS)
      (K11.fa_of (x := "limbs_of") (st := K11.s_limbs_of) X G ?a_limbs_of ?l_limbs_of ?c_limbs_of ?k_limbs_of)
      (K11.ia_of (qual := "Hasher.__init__") (st := K11.s_Hasher_init) ?mk_Hasher_init ?kc_Hasher_init ?a_Hasher_init ?i_Hasher_init ?l_Hasher_init ?c_Hasher_init ?k_Hasher_init)
      (K11.ma_of (x := "digest") (qual := "Hasher.digest") (st := K11.s_Hasher_digest) ?a_Hasher_digest ?i_Hasher_digest ?l_Hasher_digest ?c_Hasher_digest ?k_Hasher_digest)
      (K11.ma_of (x := "is_digest") (qual := "Hasher.is_digest") (st := K11.s_Hasher_is_digest) ?a_Hasher_is_digest ?i_Hasher_is_digest ?l_Hasher_is_digest ?c_Hasher_is_digest ?k_Hasher_is_digest)
      (K11.fa_of (x := "collision") (st := K11.s_collision) X G ?a_collision ?l_collision ?c_collision ?k_collision)
      (K11.fa_of (x := "is_input") (st := K11.s_is_input) X G ?a_is_input ?l_is_input ?c_is_input ?k_is_input)
      (K11.fa_of (x := "digit_counts") (st := K11.s_digit_counts) X G ?a_digit_counts ?l_digit_counts ?c_digit_counts ?k_digit_counts)
      (K11.fa_of (x := "digits_of") (st := K11.s_digits_of) X G ?a_digits_of ?l_digits_of ?c_digits_of ?k_digits_of)
      (K11.fa_of (x := "stepped") (st := K11.s_stepped) X G ?a_stepped ?l_stepped ?c_stepped ?k_stepped)
      (K11.fa_of (x := "key_digest") (st := K11.s_key_digest) X G ?a_key_digest ?l_key_digest ?c_key_digest ?k_key_digest)
      (K11.fa_of (x := "_law_digest") (st := K11.s_law_digest) X G ?a_law_digest ?l_law_digest ?c_law_digest ?k_law_digest)
      (K11.fa_of (x := "_law_digits") (st := K11.s_law_digits) X G ?a_law_digits ?l_law_digits ?c_law_digits ?k_law_digits)
      (K11.fa_of (x := "_law_step") (st := K11.s_law_step) X G ?a_law_step ?l_law_step ?c_law_step ?k_law_step)
      (K11.fa_of (x := "_law_words") (st := K11.s_law_words) X G ?a_law_words ?l_law_words ?c_law_words ?k_law_words)
      (K11.ma_of (x := "chains") (qual := "Signer.chains") (st := K11.s_Signer_chains) ?a_Signer_chains ?i_Signer_chains ?l_Signer_chains ?c_Signer_chains ?k_Signer_chains)
      (K11.ma_of (x := "key_words") (qual := "Signer.key_words") (st := K11.s_Signer_key_words) ?a_Signer_key_words ?i_Signer_key_words ?l_Signer_key_words ?c_Signer_key_words ?k_Signer_key_words)
      (K11.ma_of (x := "word") (qual := "Signer.word") (st := K11.s_Signer_word) ?a_Signer_word ?i_Signer_word ?l_Signer_word ?c_Signer_word ?k_Signer_word)
      (K11.ma_of (x := "tops") (qual := "Signer.tops") (st := K11.s_Signer_tops) ?a_Signer_tops ?i_Signer_tops ?l_Signer_tops ?c_Signer_tops ?k_Signer_tops)
      (K11.ia_of (qual := "Signer.__init__") (st := K11.s_Signer_init) ?mk_Signer_init ?kc_Signer_init ?a_Signer_init ?i_Signer_init ?l_Signer_init ?c_Signer_init ?k_Signer_init)
      (K11.fa_of (x := "levels_of") (st := K11.s_levels_of) X G ?a_levels_of ?l_levels_of ?c_levels_of ?k_levels_of)
      (K11.fa_of (x := "inputs_of") (st := K11.s_inputs_of) X G ?a_inputs_of ?l_inputs_of ?c_inputs_of ?k_inputs_of)
      (K11.fa_of (x := "verify") (st := K11.s_verify) X G ?a_verify ?l_verify ?c_verify ?k_verify)
      (K11.fa_of (x := "true_inputs") (st := K11.s_true_inputs) X G ?a_true_inputs ?l_true_inputs ?c_true_inputs ?k_true_inputs)
      (K11.fa_of (x := "merged") (st := K11.s_merged) X G ?a_merged ?l_merged ?c_merged ?k_merged)
      (K11.fa_of (x := "chain_break") (st := K11.s_chain_break) X G ?a_chain_break ?l_chain_break ?c_chain_break ?k_chain_break)
      (K11.fa_of (x := "is_collision") (st := K11.s_is_collision) X G ?a_is_collision ?l_is_collision ?c_is_collision ?k_is_collision)
      (K11.fa_of (x := "signing_break") (st := K11.s_signing_break) X G ?a_signing_break ?l_signing_break ?c_signing_break ?k_signing_break)
      (K11.fa_of (x := "_law_keys") (st := K11.s_law_keys) X G ?a_law_keys ?l_law_keys ?c_law_keys ?k_law_keys)
      (K11.fa_of (x := "_law_public") (st := K11.s_law_public) X G ?a_law_public ?l_law_public ?c_law_public ?k_law_public)
      (K11.fa_of (x := "_law_signed") (st := K11.s_law_signed) X G ?a_law_signed ?l_law_signed ?c_law_signed ?k_law_signed)
      (K11.fa_of (x := "_law_rows") (st := K11.s_law_rows) X G ?a_law_rows ?l_law_rows ?c_law_rows ?k_law_rows)
      (K11.fa_of (x := "_law_true") (st := K11.s_law_true) X G ?a_law_true ?l_law_true ?c_law_true ?k_law_true)
      (K11.fa_of (x := "_law_meeting") (st := K11.s_law_meeting) X G ?a_law_meeting ?l_law_meeting ?c_law_meeting ?k_law_meeting)
      (K11.fa_of (x := "_law_inputs") (st := K11.s_law_inputs) X G ?a_law_inputs ?l_law_inputs ?c_law_inputs ?k_law_inputs)
      (K11.fa_of (x := "_law_valid") (st := K11.s_law_valid) X G ?a_law_valid ?l_law_valid ?c_law_valid ?k_law_valid)
      (K11.fa_of (x := "_law_due") (st := K11.s_law_due) X G ?a_law_due ?l_law_due ?c_law_due ?k_law_due)
      (K11.fa_of (x := "_law_draw") (st := K11.s_law_draw) X G ?a_law_draw ?l_law_draw ?c_law_draw ?k_law_draw)
      (K11.fa_of (x := "_law_forged") (st := K11.s_law_forged) X G ?a_law_forged ?l_law_forged ?c_law_forged ?k_law_forged)
      (K11.fa_of (x := "law") (st := K11.s_law) X G ?a_law ?l_law ?c_law ?k_law)
    (case gH => k_is)
    (case gS => k_is)
    (case z_len => k_is)
    (case z_sum => k_is)
    (case z_all => k_is)
    (case z_any => k_is)
    (case z_min => k_is)
    (case z_tuple => k_is)
    (case z_list => k_is)
    (case z_int => k_is)
    (case z_dict => k_is)
    (case z_range => k_is)
    (case n_FIRST => k_is)
    (case n_SECOND => k_is)
    (case n_ONE => k_is)
    (case n_OTHER => k_is)
    (case n_WHOLE => k_is)
    (case n_CHAIN => k_is)
    (case n_KEY => k_is)
    (case n_TREE => k_is)
    (case n_SECRET => k_is)
    (case n_BASE => k_is)
    (case n_MOST_LEVELS => k_is)
    (case mM => exact List.mem_cons_self ..)
    (case mL => exact List.mem_cons_of_mem _ (List.mem_cons_self ..))
    (case pgH => k_is)
    (case hdH => k_is)
    (case poH => k_is)
    (case saH => k_is)
    (case pgS => k_is)
    (case hdS => k_is)
    (case poS => k_is)
    (case saS => k_is)
    (case nH => k_is)
    (case nS1 => k_is)
    (case nS2 => k_is)
    (case nS3 => k_is)
    (case nS4 => k_is)
    (case nS5 => k_is)
    (case nS6 => k_is)
    (case a_limbs_of => k_is)
    (case l_limbs_of => k_is)
    (case c_limbs_of => k_is)
    (case k_limbs_of => k_is)
    (case mk_Hasher_init => k_is)
    (case kc_Hasher_init => k_is)
    (case a_Hasher_init => k_is)
    (case i_Hasher_init => k_is)
    (case l_Hasher_init => k_is)
    (case c_Hasher_init => k_is)
    (case k_Hasher_init => k_is)
    (case a_Hasher_digest => k_is)
    (case i_Hasher_digest => k_is)
    (case l_Hasher_digest => k_is)
    (case c_Hasher_digest => k_is)
    (case k_Hasher_digest => k_is)
    (case a_Hasher_is_digest => k_is)
    (case i_Hasher_is_digest => k_is)
    (case l_Hasher_is_digest => k_is)
    (case c_Hasher_is_digest => k_is)
    (case k_Hasher_is_digest => k_is)
    (case a_collision => k_is)
    (case l_collision => k_is)
    (case c_collision => k_is)
    (case k_collision => k_is)
    (case a_is_input => k_is)
    (case l_is_input => k_is)
    (case c_is_input => k_is)
    (case k_is_input => k_is)
    (case a_digit_counts => k_is)
    (case l_digit_counts => k_is)
    (case c_digit_counts => k_is)
    (case k_digit_counts => k_is)
    (case a_digits_of => k_is)
    (case l_digits_of => k_is)
    (case c_digits_of => k_is)
    (case k_digits_of => k_is)
    (case a_stepped => k_is)
    (case l_stepped => k_is)
    (case c_stepped => k_is)
    (case k_stepped => k_is)
    (case a_key_digest => k_is)
    (case l_key_digest => k_is)
    (case c_key_digest => k_is)
    (case k_key_digest => k_is)
    (case a_law_digest => k_is)
    (case l_law_digest => k_is)
    (case c_law_digest => k_is)
    (case k_law_digest => k_is)
    (case a_law_digits => k_is)
    (case l_law_digits => k_is)
    (case c_law_digits => k_is)
    (case k_law_digits => k_is)
    (case a_law_step => k_is)
    (case l_law_step => k_is)
    (case c_law_step => k_is)
    (case k_law_step => k_is)
    (case a_law_words => k_is)
    (case l_law_words => k_is)
    (case c_law_words => k_is)
    (case k_law_words => k_is)
    (case a_Signer_chains => k_is)
    (case i_Signer_chains => k_is)
    (case l_Signer_chains => k_is)
    (case c_Signer_chains => k_is)
    (case k_Signer_chains => k_is)
    (case a_Signer_key_words => k_is)
    (case i_Signer_key_words => k_is)
    (case l_Signer_key_words => k_is)
    (case c_Signer_key_words => k_is)
    (case k_Signer_key_words => k_is)
    (case a_Signer_word => k_is)
    (case i_Signer_word => k_is)
    (case l_Signer_word => k_is)
    (case c_Signer_word => k_is)
    (case k_Signer_word => k_is)
    (case a_Signer_tops => k_is)
    (case i_Signer_tops => k_is)
    (case l_Signer_tops => k_is)
    (case c_Signer_tops => k_is)
    (case k_Signer_tops => k_is)
    (case mk_Signer_init => k_is)
    (case kc_Signer_init => k_is)
    (case a_Signer_init => k_is)
    (case i_Signer_init => k_is)
    (case l_Signer_init => k_is)
    (case c_Signer_init => k_is)
    (case k_Signer_init => k_is)
    (case a_levels_of => k_is)
    (case l_levels_of => k_is)
    (case c_levels_of => k_is)
    (case k_levels_of => k_is)
    (case a_inputs_of => k_is)
    (case l_inputs_of => k_is)
    (case c_inputs_of => k_is)
    (case k_inputs_of => k_is)
    (case a_verify => k_is)
    (case l_verify => k_is)
    (case c_verify => k_is)
    (case k_verify => k_is)
    (case a_true_inputs => k_is)
    (case l_true_inputs => k_is)
    (case c_true_inputs => k_is)
    (case k_true_inputs => k_is)
    (case a_merged => k_is)
    (case l_merged => k_is)
    (case c_merged => k_is)
    (case k_merged => k_is)
    (case a_chain_break => k_is)
    (case l_chain_break => k_is)
    (case c_chain_break => k_is)
    (case k_chain_break => k_is)
    (case a_is_collision => k_is)
    (case l_is_collision => k_is)
    (case c_is_collision => k_is)
    (case k_is_collision => k_is)
    (case a_signing_break => k_is)
    (case l_signing_break => k_is)
    (case c_signing_break => k_is)
    (case k_signing_break => k_is)
    (case a_law_keys => k_is)
    (case l_law_keys => k_is)
    (case c_law_keys => k_is)
    (case k_law_keys => k_is)
    (case a_law_public => k_is)
    (case l_law_public => k_is)
    (case c_law_public => k_is)
    (case k_law_public => k_is)
    (case a_law_signed => k_is)
    (case l_law_signed => k_is)
    (case c_law_signed => k_is)
    (case k_law_signed => k_is)
    (case a_law_rows => k_is)
    (case l_law_rows => k_is)
    (case c_law_rows => k_is)
    (case k_law_rows => k_is)
    (case a_law_true => k_is)
    (case l_law_true => k_is)
    (case c_law_true => k_is)
    (case k_law_true => k_is)
    (case a_law_meeting => k_is)
    (case l_law_meeting => k_is)
    (case c_law_meeting => k_is)
    (case k_law_meeting => k_is)
    (case a_law_inputs => k_is)
    (case l_law_inputs => k_is)
    (case c_law_inputs => k_is)
    (case k_law_inputs => k_is)
    (case a_law_valid => k_is)
    (case l_law_valid => k_is)
    (case c_law_valid => k_is)
    (case k_law_valid => k_is)
    (case a_law_due => k_is)
    (case l_law_due => k_is)
    (case c_law_due => k_is)
    (case k_law_due => k_is)
    (case a_law_draw => k_is)
    (case l_law_draw => k_is)
    (case c_law_draw => k_is)
    (case k_law_draw => k_is)
    (case a_law_forged => k_is)
    (case l_law_forged => k_is)
    (case c_law_forged => k_is)
    (case k_law_forged => k_is)
    (case a_law => k_is)
    (case l_law => k_is)
    (case c_law => k_is)
    (case k_law => k_is)
