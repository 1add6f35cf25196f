import PyProof.Rows.All
import Wide.All
import OpenK.AllK
import Wide.FinOn
import HandS.ForMost
import HandS.Evl
import HandS.Star
import HandS.Strs
import HandS.SetBool
import HandS.DictComp
import HandS.IsInst
import HandS.Conv
import HandS.Style
import HandS.Wide
import KE.KDictDisplayH
import PySem.Challenge.RW_startbits_k84_whole_into_step
import HandS.WideBits
import HandS.Defaults
set_option Elab.async false
set_option linter.all false
set_option maxRecDepth 100000
set_option maxHeartbeats 4000000
namespace Sb
/-! ### the receiver, in plain Lean -/
inductive Par where | non | even | odd
deriving DecidableEq
structure Shp where
  b : Nat
  p : Par
  s : Nat
deriving DecidableEq
def Shp.pn (h : Shp) : Nat := if h.p = .non then 0 else 1
def Shp.size (h : Shp) : Nat := 1 + h.b + h.pn + h.s
def Shp.fs (h : Shp) : Nat := 1 + h.b + h.pn
structure Shp.Ok (h : Shp) : Prop where
  b1 : 1 ≤ h.b
  b9 : h.b ≤ 9
  s1 : 1 ≤ h.s
  s2 : h.s ≤ 2
theorem Shp.pn_le (h : Shp) : h.pn ≤ 1 := by unfold Shp.pn; split <;> omega
def oddBit (h : Shp) : Int := if h.p = .odd then 1 else 0
def bitsOf (b : Nat) (n : Int) : List Int := (List.range b).map fun i => n / 2 ^ i % 2
def parL (h : Shp) (n : Int) : Int := ((bitsOf h.b n).sum + oddBit h) % 2
def parLs (h : Shp) (n : Int) : List Int := if h.p = .non then [] else [parL h n]
def frm (h : Shp) (n : Int) : List Int := (0 :: bitsOf h.b n) ++ parLs h n ++ List.replicate h.s 1
structure Stt where
  pl : Int
  on : Int
  nu : Int
  em : Bool
deriving DecidableEq
def idl : Stt := ⟨0, 0, 0, true⟩
inductive Wd where | good | parity | brk | frame
deriving DecidableEq
/-- the state behind a level, and the word told -/
def aft (h : Shp) (t : Stt) (l : Int) : Stt × Option Wd :=
  if t.pl = -1 then (if l = 1 then idl else t, none)
  else if t.pl = 0 then (if l = 0 then ⟨1, 0, 0, true⟩ else idl, none)
  else if t.pl < (h.fs : Int) then
    (⟨t.pl + 1, if h.p = .non then t.on else (t.on + l) % 2, if t.pl ≤ (h.b : Int) then t.nu + l * 2 ^ (t.pl - 1).toNat else t.nu, t.em && decide (l = 0)⟩, none)
  else if l = 0 then (⟨-1, 0, 0, true⟩, some (if (t.em && decide (l = 0)) = true then .brk else .frame))
  else if t.pl + 1 < (h.size : Int) then (⟨t.pl + 1, t.on, t.nu, t.em && decide (l = 0)⟩, none)
  else (idl, some (if h.p = .non ∨ t.on = oddBit h then .good else .parity))
/-- the place alone -/
def nxt (h : Shp) (p l : Int) : Int :=
  if p = -1 then (if l = 1 then 0 else -1)
  else if p = 0 then (if l = 0 then 1 else 0)
  else if p < (h.fs : Int) then p + 1
  else if l = 0 then -1
  else if p + 1 < (h.size : Int) then p + 1
  else 0
theorem aft_pl (h : Shp) (t : Stt) (l : Int) : (aft h t l).1.pl = nxt h t.pl l := by
  unfold aft nxt
  by_cases h1 : t.pl = -1
  · rw [if_pos h1, if_pos h1]
    by_cases h2 : l = 1
    · rw [if_pos h2, if_pos h2]; rfl
    · rw [if_neg h2, if_neg h2]; exact h1
  · rw [if_neg h1, if_neg h1]
    by_cases h2 : t.pl = 0
    · rw [if_pos h2, if_pos h2]
      by_cases h3 : l = 0
      · rw [if_pos h3, if_pos h3]
      · rw [if_neg h3, if_neg h3]; rfl
    · rw [if_neg h2, if_neg h2]
      by_cases h3 : t.pl < (h.fs : Int)
      · rw [if_pos h3, if_pos h3]
      · rw [if_neg h3, if_neg h3]
        by_cases h4 : l = 0
        · rw [if_pos h4, if_pos h4]
        · rw [if_neg h4, if_neg h4]
          by_cases h5 : t.pl + 1 < (h.size : Int)
          · rw [if_pos h5, if_pos h5]
          · rw [if_neg h5, if_neg h5]; rfl
/-- the state behind levels -/
def sta (h : Shp) (t : Stt) (ls : List Int) : Stt := ls.foldl (fun t l => (aft h t l).1) t
def nxts (h : Shp) (p : Int) (ls : List Int) : Int := ls.foldl (nxt h) p
theorem sta_pl (h : Shp) : ∀ (ls : List Int) (t : Stt), (sta h t ls).pl = nxts h t.pl ls
  | [], _ => rfl
  | l :: ls, t => by
    show (sta h (aft h t l).1 ls).pl = nxts h (nxt h t.pl l) ls
    rw [sta_pl h ls, aft_pl]
/-- the place behind a number -/
def dlt (h : Shp) (n p : Int) : Int := nxts h p (frm h n)
/-- the words told during levels -/
def wds (h : Shp) : Stt → List Int → List Wd
  | _, [] => []
  | t, l :: ls => (match (aft h t l).2 with | none => [] | some w => [w]) ++ wds h (aft h t l).1 ls
/-! ### places -/
theorem size_fs (h : Shp) : h.size = h.fs + h.s := rfl
theorem fs_ge (h : Shp) : 1 + h.b ≤ h.fs := by unfold Shp.fs; omega
theorem nxt_rng {h : Shp} (ok : h.Ok) {p l : Int} (h0 : -1 ≤ p) (h1 : p < h.size) : -1 ≤ nxt h p l ∧ nxt h p l < h.size := by
  have e := size_fs h
  have e2 := fs_ge h
  have e3 := ok.s1
  unfold nxt
  split
  · split <;> omega
  · split
    · split <;> omega
    · split
      · omega
      · split
        · omega
        · split <;> omega
theorem nxt_one {h : Shp} (ok : h.Ok) {p : Int} (h0 : -1 ≤ p) (h1 : p < h.size) : 0 ≤ nxt h p 1 ∧ nxt h p 1 < h.size := by
  have r := nxt_rng ok (l := 1) h0 h1
  refine ⟨?_, r.2⟩
  unfold nxt
  rw [if_pos rfl, if_neg (show ¬ (1 : Int) = 0 by decide), if_neg (show ¬ (1 : Int) = 0 by decide)]
  split
  · omega
  · split
    · omega
    · split
      · omega
      · split <;> omega
theorem nxts_rng {h : Shp} (ok : h.Ok) : ∀ (ls : List Int) {p : Int}, -1 ≤ p → p < h.size → -1 ≤ nxts h p ls ∧ nxts h p ls < h.size
  | [], _, h0, h1 => ⟨h0, h1⟩
  | l :: ls, p, h0, h1 => nxts_rng ok ls (nxt_rng ok h0 h1).1 (nxt_rng ok h0 h1).2
theorem nxts_app (h : Shp) (p : Int) (xs ys : List Int) : nxts h p (xs ++ ys) = nxts h (nxts h p xs) ys := List.foldl_append
theorem nxts_end {h : Shp} (ok : h.Ok) (ls : List Int) {p : Int} (h0 : -1 ≤ p) (h1 : p < h.size) : 0 ≤ nxts h p (ls ++ [1]) ∧ nxts h p (ls ++ [1]) < h.size := by
  rw [nxts_app]
  exact nxt_one ok (nxts_rng ok ls h0 h1).1 (nxts_rng ok ls h0 h1).2
theorem rep_last {s : Nat} (h : 1 ≤ s) : List.replicate s (1 : Int) = List.replicate (s - 1) 1 ++ [1] := by
  obtain ⟨k, rfl⟩ : ∃ k, s = k + 1 := ⟨s - 1, by omega⟩
  rw [List.replicate_succ', Nat.add_sub_cancel]
theorem frm_last {h : Shp} (ok : h.Ok) (n : Int) : ∃ ls, frm h n = ls ++ [1] := by
  refine ⟨(0 :: bitsOf h.b n) ++ parLs h n ++ List.replicate (h.s - 1) 1, ?_⟩
  unfold frm
  rw [rep_last ok.s1, ← List.append_assoc]
theorem dlt_rng {h : Shp} (ok : h.Ok) (n : Int) {p : Int} (h0 : -1 ≤ p) (h1 : p < h.size) : 0 ≤ dlt h n p ∧ dlt h n p < h.size := by
  obtain ⟨ls, e⟩ := frm_last ok n
  unfold dlt
  rw [e]
  exact nxts_end ok ls h0 h1
/-! ### a frame from the idle state -/
theorem bits_len (b : Nat) (n : Int) : (bitsOf b n).length = b := by unfold bitsOf; simp
theorem parLs_len (h : Shp) (n : Int) : (parLs h n).length = h.pn := by
  unfold parLs Shp.pn
  split <;> rfl
theorem frm_len (h : Shp) (n : Int) : (frm h n).length = h.size := by
  unfold frm Shp.size
  simp [bits_len, parLs_len]
  omega
theorem bits_succ (k : Nat) (n : Int) : bitsOf (k + 1) n = bitsOf k n ++ [n / 2 ^ k % 2] := by
  unfold bitsOf
  rw [List.range_succ, List.map_append]
  rfl
theorem sta_app (h : Shp) (t : Stt) (xs ys : List Int) : sta h t (xs ++ ys) = sta h (sta h t xs) ys := List.foldl_append
theorem wds_app (h : Shp) : ∀ (xs ys : List Int) (t : Stt), wds h t (xs ++ ys) = wds h t xs ++ wds h (sta h t xs) ys
  | [], _, _ => rfl
  | x :: xs, ys, t => by
    show _ ++ wds h (aft h t x).1 (xs ++ ys) = (_ ++ wds h (aft h t x).1 xs) ++ wds h (sta h (aft h t x).1 xs) ys
    rw [wds_app h xs ys, List.append_assoc]
theorem pow_pos2 (k : Nat) : (0 : Int) < 2 ^ k := Int.pow_pos (by decide)
theorem mod_succ {n : Int} (k : Nat) : n % 2 ^ k + n / 2 ^ k % 2 * 2 ^ k = n % 2 ^ (k + 1) := by
  have hp := pow_pos2 k
  have e1 : (2 : Int) ^ (k + 1) = 2 ^ k * 2 := Int.pow_succ 2 k
  have hd := Int.mul_ediv_add_emod n (2 ^ k)
  have hd2 := Int.mul_ediv_add_emod (n / 2 ^ k) 2
  have r1 := Int.emod_nonneg n (Int.ne_of_gt hp)
  have r2 := Int.emod_lt_of_pos n hp
  have r3 := Int.emod_nonneg (n / 2 ^ k) (show (2 : Int) ≠ 0 by decide)
  have r4 := Int.emod_lt_of_pos (n / 2 ^ k) (show (0 : Int) < 2 by decide)
  generalize hq : n / 2 ^ k = q at *
  generalize hr : n % 2 ^ k = r at *
  generalize hP : (2 : Int) ^ k = P at *
  generalize hq2 : q / 2 = q2 at *
  generalize hr2 : q % 2 = r2' at *
  rw [e1]
  have en : n = (r + r2' * P) + (P * 2) * q2 := by
    rw [← hd, ← hd2]
    rw [Int.mul_add, Int.mul_assoc, Int.mul_comm P r2']
    omega
  rw [en, Int.add_mul_emod_self_left]
  have : r2' = 0 ∨ r2' = 1 := by omega
  rcases this with rfl | rfl
  · exact (Int.emod_eq_of_lt (by omega) (by omega)).symm
  · exact (Int.emod_eq_of_lt (by omega) (by omega)).symm
theorem add_mod2 (a l : Int) : (a % 2 + l) % 2 = (a + l) % 2 := by omega
theorem run_bits (h : Shp) (n : Int) : ∀ (k : Nat), k ≤ h.b → ∃ em, sta h ⟨1, 0, 0, true⟩ (bitsOf k n) = ⟨1 + k, if h.p = .non then 0 else (bitsOf k n).sum % 2, n % 2 ^ k, em⟩ ∧ wds h ⟨1, 0, 0, true⟩ (bitsOf k n) = []
  | 0, _ => by
    refine ⟨true, ?_, rfl⟩
    show (⟨1, 0, 0, true⟩ : Stt) = _
    have e1 : n % 2 ^ 0 = 0 := by rw [Int.pow_zero]; omega
    rw [e1]
    split <;> rfl
  | k + 1, hk => by
    obtain ⟨em, e1, e2⟩ := run_bits h n k (by omega)
    have ea : aft h ⟨1 + k, if h.p = .non then 0 else (bitsOf k n).sum % 2, n % 2 ^ k, em⟩ (n / 2 ^ k % 2) = (⟨1 + k + 1, if h.p = .non then (if h.p = .non then 0 else (bitsOf k n).sum % 2) else ((if h.p = .non then 0 else (bitsOf k n).sum % 2) + n / 2 ^ k % 2) % 2, n % 2 ^ k + n / 2 ^ k % 2 * 2 ^ ((1 + (k : Int)) - 1).toNat, em && decide (n / 2 ^ k % 2 = 0)⟩, none) := by
      unfold aft
      have f1 : ¬ (1 + (k : Int)) = -1 := by omega
      have f2 : ¬ (1 + (k : Int)) = 0 := by omega
      have f3 : (1 + (k : Int)) < (h.fs : Int) := by have := fs_ge h; omega
      have f4 : (1 + (k : Int)) ≤ (h.b : Int) := by omega
      simp only [if_neg f1, if_neg f2, if_pos f3, if_pos f4]
    have et : ((1 + (k : Int)) - 1).toNat = k := by omega
    rw [et, mod_succ] at ea
    refine ⟨em && decide (n / 2 ^ k % 2 = 0), ?_, ?_⟩
    · rw [bits_succ, sta_app, e1]
      show (aft h _ _).1 = _
      rw [ea]
      have : (1 : Int) + (k : Int) + 1 = 1 + ((k + 1 : Nat) : Int) := by omega
      rw [this]
      congr 1
      by_cases hp : h.p = .non
      · simp only [if_pos hp]
      · simp only [if_neg hp]
        rw [List.sum_append, add_mod2]
        simp
    · rw [bits_succ, wds_app, e2, e1]
      show [] ++ ((match (aft h _ _).2 with | none => [] | some w => [w]) ++ []) = []
      rw [ea]
      rfl
theorem oddBit_rng (h : Shp) : oddBit h = 0 ∨ oddBit h = 1 := by unfold oddBit; split <;> simp
theorem sum_par (a o : Int) (ho : o = 0 ∨ o = 1) : (a % 2 + (a + o) % 2) % 2 = o := by omega
/-- the state ahead of the stop bits -/
theorem run_data (h : Shp) (n : Int) : ∃ em, sta h ⟨1, 0, 0, true⟩ (bitsOf h.b n ++ parLs h n) = ⟨h.fs, if h.p = .non then 0 else oddBit h, n % 2 ^ h.b, em⟩ ∧ wds h ⟨1, 0, 0, true⟩ (bitsOf h.b n ++ parLs h n) = [] := by
  obtain ⟨em, e1, e2⟩ := run_bits h n h.b (Nat.le_refl _)
  by_cases hp : h.p = .non
  · have ep : parLs h n = [] := by unfold parLs; rw [if_pos hp]
    have ef : (h.fs : Int) = 1 + h.b := by unfold Shp.fs Shp.pn; rw [if_pos hp]; omega
    rw [ep, List.append_nil, ef]
    simp only [if_pos hp] at e1 ⊢
    exact ⟨em, e1, e2⟩
  · have ep : parLs h n = [parL h n] := by unfold parLs; rw [if_neg hp]
    have ef : (h.fs : Int) = 1 + h.b + 1 := by unfold Shp.fs Shp.pn; rw [if_neg hp]; omega
    rw [ep, sta_app, wds_app, e1, e2]
    simp only [if_neg hp]
    have ea : aft h ⟨1 + h.b, (bitsOf h.b n).sum % 2, n % 2 ^ h.b, em⟩ (parL h n) = (⟨1 + h.b + 1, ((bitsOf h.b n).sum % 2 + parL h n) % 2, n % 2 ^ h.b, em && decide (parL h n = 0)⟩, none) := by
      unfold aft
      have f1 : ¬ (1 + (h.b : Int)) = -1 := by omega
      have f2 : ¬ (1 + (h.b : Int)) = 0 := by omega
      have f3 : (1 + (h.b : Int)) < (h.fs : Int) := by omega
      have f4 : ¬ (1 + (h.b : Int)) ≤ (h.b : Int) := by omega
      simp only [if_neg f1, if_neg f2, if_pos f3, if_neg f4, if_neg hp]
    refine ⟨em && decide (parL h n = 0), ?_, ?_⟩
    · show (aft h _ _).1 = _
      rw [ea, ef]
      have e3 : ((bitsOf h.b n).sum % 2 + parL h n) % 2 = oddBit h := sum_par _ _ (oddBit_rng h)
      rw [e3]
    · show [] ++ ((match (aft h _ _).2 with | none => [] | some w => [w]) ++ []) = []
      rw [ea]
      rfl
/-- a whole frame from the idle state: one good reading, behind it idle -/
theorem run_frm {h : Shp} (ok : h.Ok) {n : Int} (h0 : 0 ≤ n) (h1 : n < 2 ^ h.b) :
    ∃ t, sta h idl ((0 :: bitsOf h.b n) ++ parLs h n ++ List.replicate (h.s - 1) 1) = t ∧ wds h idl ((0 :: bitsOf h.b n) ++ parLs h n ++ List.replicate (h.s - 1) 1) = [] ∧ t.nu = n ∧ aft h t 1 = (idl, some .good) := by
  obtain ⟨em, e1, e2⟩ := run_data h n
  have en : n % 2 ^ h.b = n := Int.emod_eq_of_lt h0 h1
  rw [en] at e1
  have e0 : aft h idl 0 = (⟨1, 0, 0, true⟩, none) := rfl
  have a1 : sta h idl ((0 :: bitsOf h.b n) ++ parLs h n) = ⟨h.fs, if h.p = .non then 0 else oddBit h, n, em⟩ := e1
  have a2 : wds h idl ((0 :: bitsOf h.b n) ++ parLs h n) = [] := e2
  have hs := size_fs h
  have hf := fs_ge h
  have hw : (h.p = .non ∨ (if h.p = .non then 0 else oddBit h) = oddBit h) := by
    by_cases hp : h.p = .non
    · exact .inl hp
    · rw [if_neg hp]; exact .inr rfl
  rw [sta_app, wds_app, a1, a2]
  have : h.s = 1 ∨ h.s = 2 := by have := ok.s1; have := ok.s2; omega
  rcases this with e | e
  · rw [e]
    refine ⟨_, rfl, rfl, rfl, ?_⟩
    show aft h ⟨h.fs, _, n, em⟩ 1 = _
    unfold aft
    have f1 : ¬ (h.fs : Int) = -1 := by omega
    have f2 : ¬ (h.fs : Int) = 0 := by omega
    have f3 : ¬ (h.fs : Int) < (h.fs : Int) := by omega
    have f4 : ¬ (1 : Int) = 0 := by omega
    have f5 : ¬ (h.fs : Int) + 1 < (h.size : Int) := by omega
    simp only [if_neg f1, if_neg f2, if_neg f3, if_neg f4, if_neg f5]
    rw [if_pos hw]
  · rw [e]
    have ea : aft h ⟨h.fs, if h.p = .non then 0 else oddBit h, n, em⟩ 1 = (⟨h.fs + 1, if h.p = .non then 0 else oddBit h, n, em && decide ((1 : Int) = 0)⟩, none) := by
      unfold aft
      have f1 : ¬ (h.fs : Int) = -1 := by omega
      have f2 : ¬ (h.fs : Int) = 0 := by omega
      have f3 : ¬ (h.fs : Int) < (h.fs : Int) := by omega
      have f4 : ¬ (1 : Int) = 0 := by omega
      have f5 : (h.fs : Int) + 1 < (h.size : Int) := by omega
      simp only [if_neg f1, if_neg f2, if_neg f3, if_neg f4, if_pos f5]
    refine ⟨_, rfl, ?_, ?_, ?_⟩
    · show [] ++ ((match (aft h _ 1).2 with | none => [] | some w => [w]) ++ []) = []
      rw [ea]; rfl
    · show (aft h _ 1).1.nu = n
      rw [ea]
    · show aft h (aft h _ 1).1 1 = _
      rw [ea]
      unfold aft
      have f1 : ¬ (h.fs : Int) + 1 = -1 := by omega
      have f2 : ¬ (h.fs : Int) + 1 = 0 := by omega
      have f3 : ¬ (h.fs : Int) + 1 < (h.fs : Int) := by omega
      have f4 : ¬ (1 : Int) = 0 := by omega
      have f5 : ¬ (h.fs : Int) + 1 + 1 < (h.size : Int) := by omega
      simp only [if_neg f1, if_neg f2, if_neg f3, if_neg f4, if_neg f5]
      rw [if_pos hw]
/-! ### readings of levels -/
structure Rns where
  st : Stt
  start : Int
  idx : Int
  found : List (Int × Wd × Int)
def rstep (h : Shp) (r : Rns) (l : Int) : Rns :=
  ⟨(aft h r.st l).1, if r.st.pl = 0 then r.idx else r.start, r.idx + 1,
    match (aft h r.st l).2 with
    | none => r.found
    | some w => r.found ++ [(if r.st.pl = 0 then r.idx else r.start, w, r.st.nu)]⟩
def runL (h : Shp) (r : Rns) (ls : List Int) : Rns := ls.foldl (rstep h) r
def rns0 : Rns := ⟨idl, 0, 0, []⟩
theorem runL_app (h : Shp) (r : Rns) (xs ys : List Int) : runL h r (xs ++ ys) = runL h (runL h r xs) ys := List.foldl_append
theorem runL_st (h : Shp) : ∀ (ls : List Int) (r : Rns), (runL h r ls).st = sta h r.st ls
  | [], _ => rfl
  | l :: ls, r => runL_st h ls (rstep h r l)
theorem runL_idx (h : Shp) : ∀ (ls : List Int) (r : Rns), (runL h r ls).idx = r.idx + ls.length
  | [], _ => by show _ = _ + ((0 : Nat) : Int); exact (Int.add_zero _).symm
  | l :: ls, r => by
    show (runL h (rstep h r l) ls).idx = _
    rw [runL_idx h ls]
    show r.idx + 1 + (ls.length : Int) = r.idx + ((ls.length + 1 : Nat) : Int)
    omega
/-- what holds of the run: idle is the idle state, a frame's start lies its place behind, every reading has ended -/
structure RnOk (h : Shp) (r : Rns) : Prop where
  lo : -1 ≤ r.st.pl
  hi : r.st.pl < h.size
  zero : r.st.pl = 0 → r.st = idl
  start : 0 < r.st.pl → r.start + r.st.pl = r.idx
  ended : ∀ x ∈ r.found, x.1 + h.b + 2 ≤ r.idx
theorem aft_zero (h : Shp) (t : Stt) (l : Int) (h0 : -1 ≤ t.pl) (z : t.pl = 0 → t = idl) : (aft h t l).1.pl = 0 → (aft h t l).1 = idl := by
  unfold aft
  split
  · split
    · intro _; rfl
    · rename_i h1 _
      intro e
      rw [e] at h1
      exact absurd h1 (by decide)
  · split
    · split
      · intro e; exact absurd e (by decide)
      · intro _; rfl
    · split
      · intro e
        have e : t.pl + 1 = 0 := e
        omega
      · split
        · intro e
          have e : (-1 : Int) = 0 := e
          omega
        · split
          · intro e
            have e : t.pl + 1 = 0 := e
            omega
          · intro _; rfl
theorem aft_word {h : Shp} {t : Stt} {l : Int} {w : Wd} (e : (aft h t l).2 = some w) : (h.fs : Int) ≤ t.pl := by
  unfold aft at e
  split at e
  · cases e
  · split at e
    · cases e
    · split at e
      · cases e
      · omega
theorem rstep_ok {h : Shp} (ok : h.Ok) {r : Rns} (R : RnOk h r) (l : Int) : RnOk h (rstep h r l) := by
  have hf := fs_ge h
  have hpl : (rstep h r l).st.pl = nxt h r.st.pl l := aft_pl h r.st l
  have rg := nxt_rng ok (l := l) R.lo R.hi
  refine ⟨by rw [hpl]; exact rg.1, by rw [hpl]; exact rg.2, aft_zero h r.st l R.lo R.zero, fun hp => ?_, fun x hx => ?_⟩
  · rw [hpl] at hp ⊢
    show (if r.st.pl = 0 then r.idx else r.start) + nxt h r.st.pl l = r.idx + 1
    have hs := R.start
    have hlo := R.lo
    unfold nxt at hp ⊢
    by_cases h1 : r.st.pl = -1
    · rw [if_pos h1] at hp
      split at hp <;> omega
    · rw [if_neg h1] at hp ⊢
      by_cases h2 : r.st.pl = 0
      · rw [if_pos h2] at hp ⊢
        rw [if_pos h2]
        by_cases h3 : l = 0
        · rw [if_pos h3]
        · rw [if_neg h3] at hp; omega
      · rw [if_neg h2] at hp ⊢
        rw [if_neg h2]
        have := hs (by omega)
        by_cases h3 : r.st.pl < (h.fs : Int)
        · rw [if_pos h3]; omega
        · rw [if_neg h3] at hp ⊢
          by_cases h4 : l = 0
          · rw [if_pos h4] at hp; omega
          · rw [if_neg h4] at hp ⊢
            by_cases h5 : r.st.pl + 1 < (h.size : Int)
            · rw [if_pos h5]; omega
            · rw [if_neg h5] at hp; omega
  · show x.1 + h.b + 2 ≤ r.idx + 1
    have hx : x ∈ (match (aft h r.st l).2 with | none => r.found | some w => r.found ++ [(if r.st.pl = 0 then r.idx else r.start, w, r.st.nu)]) := hx
    cases e : (aft h r.st l).2 with
    | none =>
      rw [e] at hx
      have := R.ended x hx
      omega
    | some w =>
      rw [e] at hx
      rcases List.mem_append.mp hx with hx | hx
      · have := R.ended x hx
        omega
      · have hw := aft_word e
        have := R.start (by omega)
        rw [List.mem_singleton.mp hx]
        show (if r.st.pl = 0 then r.idx else r.start) + h.b + 2 ≤ r.idx + 1
        rw [if_neg (by omega)]
        omega
theorem runL_ok {h : Shp} (ok : h.Ok) : ∀ (ls : List Int) {r : Rns}, RnOk h r → RnOk h (runL h r ls)
  | [], _, R => R
  | l :: ls, _, R => runL_ok ok ls (rstep_ok ok R l)
theorem rns0_ok {h : Shp} (ok : h.Ok) : RnOk h rns0 := ⟨by decide, by have := ok.s1; have := size_fs h; show (0 : Int) < _; omega, fun _ => rfl, fun e => absurd e (by decide), fun x hx => nomatch hx⟩
/-- during levels that tell nothing from an idle start: the start stays -/
theorem runL_quiet (h : Shp) : ∀ (ls : List Int) (r : Rns), wds h r.st ls = [] → (runL h r ls).found = r.found
  | [], _, _ => rfl
  | l :: ls, r, e => by
    have e : (match (aft h r.st l).2 with | none => [] | some w => [w]) ++ wds h (aft h r.st l).1 ls = [] := e
    obtain ⟨e1, e2⟩ := List.append_eq_nil_iff.mp e
    have e3 : (aft h r.st l).2 = none := by
      cases q : (aft h r.st l).2 with
      | none => rfl
      | some w => rw [q] at e1; cases e1
    show (runL h (rstep h r l) ls).found = r.found
    rw [runL_quiet h ls (rstep h r l) e2]
    show (match (aft h r.st l).2 with | none => r.found | some w => r.found ++ [(if r.st.pl = 0 then r.idx else r.start, w, r.st.nu)]) = r.found
    rw [e3]
/-- one frame from the idle state -/
theorem runL_frm {h : Shp} (ok : h.Ok) {r : Rns} (R : RnOk h r) (hi : r.st = idl) {n : Int} (h0 : 0 ≤ n) (h1 : n < 2 ^ h.b) :
    (runL h r (frm h n)).st = idl ∧ (runL h r (frm h n)).idx = r.idx + h.size ∧ (runL h r (frm h n)).found = r.found ++ [(r.idx, .good, n)] := by
  obtain ⟨t, e1, e2, e3, e4⟩ := run_frm ok h0 h1
  have ef : frm h n = ((0 :: bitsOf h.b n) ++ parLs h n ++ List.replicate (h.s - 1) 1) ++ [1] := by
    show (0 :: bitsOf h.b n) ++ parLs h n ++ List.replicate h.s 1 = _
    rw [rep_last ok.s1, ← List.append_assoc]
  have el : (((0 :: bitsOf h.b n) ++ parLs h n ++ List.replicate (h.s - 1) 1).length : Int) + 1 = h.size := by
    have := frm_len h n
    rw [ef, List.length_append] at this
    have q : ([1] : List Int).length = 1 := rfl
    rw [q] at this
    omega
  rw [ef]
  generalize (0 :: bitsOf h.b n) ++ parLs h n ++ List.replicate (h.s - 1) 1 = ls at *
  have hst : (runL h r ls).st = t := by rw [runL_st, hi]; exact e1
  have hix := runL_idx h ls r
  have hfo : (runL h r ls).found = r.found := runL_quiet h ls r (by rw [hi]; exact e2)
  have R2 := runL_ok ok ls R
  generalize hr2 : runL h r ls = r2 at *
  have e5 : runL h r (ls ++ [1]) = rstep h r2 1 := by rw [runL_app, hr2]; rfl
  rw [e5]
  have e6 : aft h r2.st 1 = (idl, some .good) := by rw [hst]; exact e4
  have hw : (h.fs : Int) ≤ r2.st.pl := aft_word (w := .good) (by rw [e6])
  have hf := fs_ge h
  have hsz : r2.st.pl + 1 = h.size := by
    -- the state is idle behind: the place was the last one
    have q : nxt h r2.st.pl 1 = 0 := by
      rw [← aft_pl, e6]; rfl
    unfold nxt at q
    rw [if_neg (by omega), if_neg (by omega), if_neg (by omega), if_neg (by decide)] at q
    split at q
    · omega
    · have := R2.hi
      omega
  have hstart := R2.start (by omega)
  refine ⟨?_, ?_, ?_⟩
  · show (aft h r2.st 1).1 = idl
    rw [e6]
  · show r2.idx + 1 = _
    omega
  · show (match (aft h r2.st 1).2 with | none => r2.found | some w => r2.found ++ [(if r2.st.pl = 0 then r2.idx else r2.start, w, r2.st.nu)]) = _
    rw [e6]
    show r2.found ++ [(if r2.st.pl = 0 then r2.idx else r2.start, Wd.good, r2.st.nu)] = _
    rw [if_neg (by omega), hfo, hst, e3]
    have : r2.start = r.idx := by omega
    rw [this]
def due (h : Shp) (base : Int) : List Int → List (Int × Wd × Int)
  | [] => []
  | n :: ns => (base, .good, n) :: due h (base + h.size) ns
def txt (h : Shp) (ns : List Int) : List Int := ns.flatMap (frm h)
theorem runL_txt {h : Shp} (ok : h.Ok) : ∀ (ns : List Int) {r : Rns}, RnOk h r → r.st = idl → (∀ n ∈ ns, 0 ≤ n ∧ n < 2 ^ h.b) →
    (runL h r (txt h ns)).st = idl ∧ (runL h r (txt h ns)).found = r.found ++ due h r.idx ns
  | [], r, _, hi, _ => ⟨hi, (List.append_nil _).symm⟩
  | n :: ns, r, R, hi, hn => by
    obtain ⟨a1, a2, a3⟩ := runL_frm ok R hi (hn n (List.mem_cons_self)).1 (hn n (List.mem_cons_self)).2
    have R2 := runL_ok ok (frm h n) R
    obtain ⟨b1, b2⟩ := runL_txt ok ns R2 a1 fun m hm => hn m (List.mem_cons_of_mem _ hm)
    have e : txt h (n :: ns) = frm h n ++ txt h ns := List.flatMap_cons
    rw [e, runL_app]
    refine ⟨b1, ?_⟩
    rw [b2, a3, a2, List.append_assoc]
    rfl
theorem aft_idl_one (h : Shp) : aft h idl 1 = (idl, none) := rfl
theorem runL_ones (h : Shp) : ∀ (k : Nat) (r : Rns), r.st = idl → (runL h r (List.replicate k 1)).found = r.found
  | 0, _, _ => rfl
  | k + 1, r, hi => by
    show (runL h (rstep h r 1) (List.replicate k 1)).found = r.found
    rw [runL_ones h k (rstep h r 1) (by show (aft h r.st 1).1 = idl; rw [hi]; rfl)]
    show (match (aft h r.st 1).2 with | none => r.found | some w => r.found ++ [(if r.st.pl = 0 then r.idx else r.start, w, r.st.nu)]) = r.found
    rw [hi, aft_idl_one]
theorem nxts_txt (h : Shp) : ∀ (ns : List Int) (p : Int), nxts h p (txt h ns) = ns.foldl (fun p n => dlt h n p) p
  | [], _ => rfl
  | n :: ns, p => by
    have e : txt h (n :: ns) = frm h n ++ txt h ns := List.flatMap_cons
    rw [e, nxts_app, nxts_txt h ns]
    rfl
def plAfter (h : Shp) (p : Int) (ns : List Int) : Int := ns.foldl (fun p n => dlt h n p) p
/-- THE LAW of the parse -/
theorem parse_law {h : Shp} (ok : h.Ok) {ahead t ns : List Int} (hs : ∀ p : Int, 0 ≤ p → p < h.size → plAfter h p t = 0) (hn : ∀ n ∈ ns, 0 ≤ n ∧ n < 2 ^ h.b) :
    ∃ early, (runL h rns0 ((ahead ++ [1]) ++ txt h t ++ txt h ns ++ List.replicate h.size 1)).found = early ++ due h (((ahead ++ [1]).length + (txt h t).length : Nat) : Int) ns ∧
      ∀ x ∈ early, x.1 + h.b + 2 ≤ (((ahead ++ [1]).length + (txt h t).length : Nat) : Int) := by
  have R1 := runL_ok ok ((ahead ++ [1]) ++ txt h t) (rns0_ok ok)
  have hix := runL_idx h ((ahead ++ [1]) ++ txt h t) rns0
  rw [List.length_append] at hix
  have hst : (runL h rns0 ((ahead ++ [1]) ++ txt h t)).st = idl := by
    refine R1.zero ?_
    rw [runL_st, sta_pl, nxts_app, nxts_txt]
    have z := nxts_end ok ahead (p := 0) (by decide) (by have := ok.s1; have := size_fs h; omega)
    exact hs _ z.1 z.2
  generalize hr : runL h rns0 ((ahead ++ [1]) ++ txt h t) = r at *
  obtain ⟨c1, c2⟩ := runL_txt ok ns R1 hst hn
  have e0 : r.idx = (((ahead ++ [1]).length + (txt h t).length : Nat) : Int) := by
    rw [hix]
    show (0 : Int) + _ = _
    omega
  refine ⟨r.found, ?_, fun x hx => ?_⟩
  · rw [runL_app, runL_app, hr, runL_ones h _ _ c1, c2, e0]
  · have := R1.ended x hx
    omega
theorem due_ge (h : Shp) : ∀ (ns : List Int) (base : Int), ∀ x ∈ due h base ns, base ≤ x.1
  | [], _, x, hx => nomatch hx
  | n :: ns, base, x, hx => by
    rcases List.mem_cons.mp hx with rfl | hx
    · exact Int.le_refl _
    · have := due_ge h ns (base + h.size) x hx
      omega
theorem due_map (h : Shp) : ∀ (ns : List Int) (base : Int), due h base ns = (List.range ns.length).map fun (i : Nat) => (base + h.size * (i : Int), Wd.good, ns.getD i 0)
  | [], _ => rfl
  | n :: ns, base => by
    show (base, Wd.good, n) :: due h (base + h.size) ns = _
    rw [due_map h ns, List.length_cons, List.range_succ_eq_map, List.map_cons, List.map_map]
    congr 1
    · show _ = (base + (h.size : Int) * ((0 : Nat) : Int), _, _)
      simp
    · refine List.map_congr_left fun i _ => ?_
      show _ = (base + (h.size : Int) * ((i + 1 : Nat) : Int), _, _)
      have : (h.size : Int) * ((i + 1 : Nat) : Int) = h.size + h.size * (i : Int) := by
        rw [Int.natCast_add, Int.mul_add, Int.add_comm]
        simp
      rw [this, Int.add_assoc]
      rfl
/-- a text that ends in step: what the law's first filter and its second find -/
theorem told_late {h : Shp} {early : List (Int × Wd × Int)} {base : Int} {ns : List Int} (hb : 1 ≤ h.b) (he : ∀ x ∈ early, x.1 + h.b + 2 ≤ base) :
    (early ++ due h base ns).filter (fun x => decide (base ≤ x.1)) = due h base ns := by
  rw [List.filter_append]
  have e1 : early.filter (fun x => decide (base ≤ x.1)) = [] := List.filter_eq_nil_iff.mpr fun x hx => by
    have := he x hx
    simp
    omega
  rw [e1, List.nil_append, List.filter_eq_self.mpr fun x hx => decide_eq_true (due_ge h ns base x hx)]
theorem told_early {h : Shp} {early : List (Int × Wd × Int)} {base : Int} {ns : List Int} (hb : 1 ≤ h.b) (he : ∀ x ∈ early, x.1 + h.b + 2 ≤ base) :
    (early ++ due h base ns).filter (fun x => decide (x.1 < base)) = early := by
  rw [List.filter_append]
  have e1 : (due h base ns).filter (fun x => decide (x.1 < base)) = [] := List.filter_eq_nil_iff.mpr fun x hx => by
    have := due_ge h ns base x hx
    simp
    omega
  rw [e1, List.append_nil, List.filter_eq_self.mpr fun x hx => decide_eq_true (by have := he x hx; omega)]

/-! ### the search, in plain Lean -/
theorem nodup_sub {α : Type} [BEq α] [LawfulBEq α] : ∀ (l m : List α), l.Nodup → (∀ x ∈ l, x ∈ m) → l.length ≤ m.length
  | [], _, _, _ => Nat.zero_le _
  | x :: l, m, hn, hs => by
    obtain ⟨h1, h2⟩ := List.nodup_cons.mp hn
    have hx : x ∈ m := hs x (List.mem_cons_self)
    have ih := nodup_sub l (m.erase x) h2 fun y hy => (List.mem_erase_of_ne (fun (e : y = x) => h1 (by rw [← e]; exact hy))).mpr (hs y (List.mem_cons_of_mem _ hy))
    rw [List.length_erase_of_mem hx] at ih
    have : 0 < m.length := List.length_pos_of_mem hx
    show l.length + 1 ≤ m.length
    omega
/-- strictly rising lists of the same members are one -/
theorem rise_ext : ∀ {l m : List Int}, l.Pairwise (· < ·) → m.Pairwise (· < ·) → (∀ k, k ∈ l ↔ k ∈ m) → l = m
  | [], [], _, _, _ => rfl
  | [], y :: m, _, _, h => absurd ((h y).mpr (List.mem_cons_self)) (by simp)
  | x :: l, [], _, _, h => absurd ((h x).mp (List.mem_cons_self)) (by simp)
  | x :: l, y :: m, hl, hm, h => by
    obtain ⟨a1, a2⟩ := List.pairwise_cons.mp hl
    obtain ⟨b1, b2⟩ := List.pairwise_cons.mp hm
    have exy : x = y := by
      rcases List.mem_cons.mp ((h x).mp (List.mem_cons_self)) with e | e
      · exact e
      · rcases List.mem_cons.mp ((h y).mpr (List.mem_cons_self)) with e' | e'
        · exact e'.symm
        · have := b1 x e
          have := a1 y e'
          omega
    subst exy
    congr 1
    refine rise_ext a2 b2 fun k => ⟨fun hk => ?_, fun hk => ?_⟩
    · rcases List.mem_cons.mp ((h k).mp (List.mem_cons_of_mem _ hk)) with e | e
      · have := a1 k hk
        omega
      · exact e
    · rcases List.mem_cons.mp ((h k).mpr (List.mem_cons_of_mem _ hk)) with e | e
      · have := b1 k hk
        omega
      · exact e
/-- 0, 1, .., n - 1 -/
def upto (n : Nat) : List Int := (List.range n).map fun (i : Nat) => (i : Int)
theorem mem_upto {n : Nat} {k : Int} : k ∈ upto n ↔ 0 ≤ k ∧ k < n := by
  unfold upto
  rw [List.mem_map]
  constructor
  · rintro ⟨i, hi, rfl⟩
    have := List.mem_range.mp hi
    omega
  · rintro ⟨h0, h1⟩
    exact ⟨k.toNat, List.mem_range.mpr (by omega), by omega⟩
theorem upto_len (n : Nat) : (upto n).length = n := by unfold upto; simp
theorem upto_rise (n : Nat) : (upto n).Pairwise (· < ·) := by
  unfold upto
  rw [List.pairwise_map]
  exact List.pairwise_lt_range.imp fun h => by omega
theorem rise_nodup {l : List Int} (h : l.Pairwise (· < ·)) : l.Nodup := h.imp fun h => by omega
theorem upto_nodup (n : Nat) : (upto n).Nodup := rise_nodup (upto_rise n)
section
variable (N : Nat) (dl : Int → Int → Int)
/-- the places above 0 that a number leads to from some places -/
def img (a : Int) (S : List Int) : List Int := (upto N).filter fun k => decide (0 < k) && S.any fun p => decide (dl a p = k)
def pla (p : Int) (w : List Int) : Int := w.foldl (fun p a => dl a p) p
def rch (S : List Int) (w : List Int) : List Int := w.foldl (fun S a => img N dl a S) S
structure Dl : Prop where
  zero : ∀ a, dl a 0 = 0
  rng : ∀ a p : Int, 0 ≤ p → p < N → 0 ≤ dl a p ∧ dl a p < N
/-- a set of places above 0, written in order -/
structure Cs (S : List Int) : Prop where
  rise : S.Pairwise (· < ·)
  rng : ∀ k ∈ S, 0 < k ∧ k < N
variable {N dl}
theorem mem_img (D : Dl N dl) {a k : Int} {S : List Int} (C : ∀ p ∈ S, 0 ≤ p ∧ p < N) : k ∈ img N dl a S ↔ 0 < k ∧ ∃ p ∈ S, dl a p = k := by
  unfold img
  rw [List.mem_filter, mem_upto, Bool.and_eq_true, decide_eq_true_eq, List.any_eq_true]
  constructor
  · rintro ⟨_, h0, p, hp, e⟩
    exact ⟨h0, p, hp, of_decide_eq_true e⟩
  · rintro ⟨h0, p, hp, e⟩
    have r := D.rng a p (C p hp).1 (C p hp).2
    exact ⟨⟨by omega, by omega⟩, h0, p, hp, decide_eq_true e⟩
theorem Cs.rng0 {S : List Int} (C : Cs N S) : ∀ p ∈ S, 0 ≤ p ∧ p < N := fun p hp => ⟨Int.le_of_lt (C.rng p hp).1, (C.rng p hp).2⟩
theorem img_cs (a : Int) (S : List Int) : Cs N (img N dl a S) := by
  refine ⟨(upto_rise N).filter _, fun k hk => ?_⟩
  unfold img at hk
  rw [List.mem_filter, mem_upto, Bool.and_eq_true, decide_eq_true_eq] at hk
  exact ⟨hk.2.1, hk.1.2⟩
theorem rch_cs : ∀ (w : List Int) {S : List Int}, Cs N S → Cs N (rch N dl S w)
  | [], _, C => C
  | a :: w, S, _ => rch_cs w (img_cs a S)
theorem pla_zero (D : Dl N dl) : ∀ w : List Int, pla dl 0 w = 0
  | [] => rfl
  | a :: w => by
    show pla dl (dl a 0) w = 0
    rw [D.zero]
    exact pla_zero D w
theorem pla_rng (D : Dl N dl) : ∀ (w : List Int) {p : Int}, 0 ≤ p → p < N → 0 ≤ pla dl p w ∧ pla dl p w < N
  | [], _, h0, h1 => ⟨h0, h1⟩
  | a :: w, p, h0, h1 => pla_rng D w (D.rng a p h0 h1).1 (D.rng a p h0 h1).2
theorem mem_rch (D : Dl N dl) : ∀ (w : List Int) {S : List Int} {k : Int}, Cs N S → (k ∈ rch N dl S w ↔ 0 < k ∧ ∃ p ∈ S, pla dl p w = k)
  | [], S, k, C => by
    constructor
    · intro h
      exact ⟨(C.rng k h).1, k, h, rfl⟩
    · rintro ⟨_, p, hp, e⟩
      have e : p = k := e
      exact e ▸ hp
  | a :: w, S, k, C => by
    show k ∈ rch N dl (img N dl a S) w ↔ _
    rw [mem_rch D w (img_cs a S)]
    constructor
    · rintro ⟨h0, q, hq, e⟩
      obtain ⟨_, p, hp, e2⟩ := (mem_img D C.rng0).mp hq
      exact ⟨h0, p, hp, by show pla dl (dl a p) w = k; rw [e2]; exact e⟩
    · rintro ⟨h0, p, hp, e⟩
      have e : pla dl (dl a p) w = k := e
      refine ⟨h0, dl a p, (mem_img D C.rng0).mpr ⟨?_, p, hp, rfl⟩, e⟩
      have r := D.rng a p (C.rng0 p hp).1 (C.rng0 p hp).2
      rcases Int.lt_or_le 0 (dl a p) with h | h
      · exact h
      · have z : dl a p = 0 := by omega
        rw [z, pla_zero D] at e
        omega
theorem rch_app (S w v : List Int) : rch N dl S (w ++ v) = rch N dl (rch N dl S w) v := List.foldl_append
/-- all places lead to 0 just if nothing is left -/
theorem rch_nil (D : Dl N dl) {S w : List Int} (C : Cs N S) : rch N dl S w = [] ↔ ∀ p ∈ S, pla dl p w = 0 := by
  constructor
  · intro e p hp
    have r := pla_rng D w (C.rng0 p hp).1 (C.rng0 p hp).2
    rcases Int.lt_or_le 0 (pla dl p w) with h | h
    · have := (mem_rch D w C).mpr ⟨h, p, hp, rfl⟩
      rw [e] at this
      cases this
    · omega
  · intro h
    refine List.eq_nil_iff_forall_not_mem.mpr fun k hk => ?_
    obtain ⟨h0, p, hp, e⟩ := (mem_rch D w C).mp hk
    rw [h p hp] at e
    omega
/-! ### a short text -/
variable (dl) in
/-- within i numbers there is a way to 0 -/
def near (al : List Int) : Nat → Int → Bool
  | 0, p => decide (p = 0)
  | i + 1, p => near al i p || al.any fun a => near al i (dl a p)
theorem near_word {al : List Int} : ∀ (i : Nat) {p : Int}, near dl al i p = true → ∃ w : List Int, w.length ≤ i ∧ (∀ a ∈ w, a ∈ al) ∧ pla dl p w = 0
  | 0, p, h => ⟨[], Nat.le_refl _, by simp, of_decide_eq_true h⟩
  | i + 1, p, h => by
    rcases (Bool.or_eq_true _ _).mp h with h | h
    · obtain ⟨w, h1, h2, h3⟩ := near_word i h
      exact ⟨w, Nat.le_succ_of_le h1, h2, h3⟩
    · obtain ⟨a, ha, h⟩ := List.any_eq_true.mp h
      obtain ⟨w, h1, h2, h3⟩ := near_word i h
      exact ⟨a :: w, Nat.succ_le_succ h1, fun b hb => by rcases List.mem_cons.mp hb with rfl | hb; exact ha; exact h2 b hb, h3⟩
theorem word_near {al : List Int} : ∀ (w : List Int) {p : Int}, (∀ a ∈ w, a ∈ al) → pla dl p w = 0 → near dl al w.length p = true
  | [], p, _, h => decide_eq_true h
  | a :: w, p, hw, h => by
    refine (Bool.or_eq_true _ _).mpr (.inr (List.any_eq_true.mpr ⟨a, hw a (List.mem_cons_self), ?_⟩))
    exact word_near w (fun b hb => hw b (List.mem_cons_of_mem _ hb)) h
theorem near_mono {al : List Int} (i : Nat) {p : Int} (h : near dl al i p = true) : near dl al (i + 1) p = true := (Bool.or_eq_true _ _).mpr (.inl h)
theorem near_le {al : List Int} {i j : Nat} (hij : i ≤ j) {p : Int} (h : near dl al i p = true) : near dl al j p = true := by
  induction hij with
  | refl => exact h
  | step _ ih => exact near_mono _ ih
theorem count_le {α : Type} {P Q : α → Bool} : ∀ {l : List α}, (∀ x ∈ l, P x = true → Q x = true) → l.countP P ≤ l.countP Q := fun h => List.countP_mono_left h
theorem count_eq {α : Type} {P Q : α → Bool} : ∀ {l : List α}, (∀ x ∈ l, P x = true → Q x = true) → l.countP P = l.countP Q → ∀ x ∈ l, Q x = true → P x = true
  | [], _, _, x, hx, _ => nomatch hx
  | y :: l, h, e, x, hx, hq => by
    have hle := count_le (l := l) fun z hz => h z (List.mem_cons_of_mem _ hz)
    rw [List.countP_cons, List.countP_cons] at e
    have hy := h y (List.mem_cons_self)
    rcases List.mem_cons.mp hx with rfl | hx
    · cases hp : P x with
      | true => rfl
      | false =>
        rw [hp, hq] at e
        simp at e
        omega
    · refine count_eq (l := l) (fun z hz => h z (List.mem_cons_of_mem _ hz)) ?_ x hx hq
      cases hp : P y with
      | true =>
        rw [hp, hy hp] at e
        simpa using e
      | false =>
        cases hqy : Q y with
        | true =>
          rw [hp, hqy] at e
          simp at e
          omega
        | false =>
          rw [hp, hqy] at e
          simpa using e
/-- if a step brings nothing new, no further one does -/
theorem near_stop (D : Dl N dl) {al : List Int} {i : Nat} (h : ∀ p ∈ upto N, near dl al (i + 1) p = true → near dl al i p = true) : ∀ (j : Nat), i ≤ j → ∀ p ∈ upto N, near dl al j p = true → near dl al i p = true
  | 0, hj, p, hp, hn => by
    have : i = 0 := by omega
    subst this
    exact hn
  | j + 1, hj, p, hp, hn => by
    by_cases e : i = j + 1
    · subst e; exact hn
    · rcases (Bool.or_eq_true _ _).mp hn with hn | hn
      · exact near_stop D h j (by omega) p hp hn
      · obtain ⟨a, ha, hn⟩ := List.any_eq_true.mp hn
        have hr := D.rng a p (mem_upto.mp hp).1 (mem_upto.mp hp).2
        have := near_stop D h j (by omega) (dl a p) (mem_upto.mpr hr) hn
        exact h p hp ((Bool.or_eq_true _ _).mpr (.inr (List.any_eq_true.mpr ⟨a, ha, this⟩)))
theorem near_count (D : Dl N dl) (hN : 1 ≤ N) {al w : List Int} (hw : ∀ a ∈ w, a ∈ al) (hr : ∀ p ∈ upto N, pla dl p w = 0) : ∀ i : Nat, min (i + 1) N ≤ (upto N).countP (near dl al i)
  | 0 => by
    have : 0 < (upto N).countP (near dl al 0) := List.countP_pos_iff.mpr ⟨0, mem_upto.mpr ⟨Int.le_refl _, by omega⟩, decide_eq_true rfl⟩
    omega
  | i + 1 => by
    have ih := near_count D hN hw hr i
    have hle := count_le (l := upto N) fun p _ h => near_mono (dl := dl) (al := al) i (p := p) h
    by_cases e : (upto N).countP (near dl al i) = (upto N).countP (near dl al (i + 1))
    · have st := count_eq (l := upto N) (fun p _ h => near_mono (dl := dl) (al := al) i (p := p) h) e
      have full : ∀ p ∈ upto N, near dl al i p = true := fun p hp => by
        have a1 := word_near w hw (hr p hp)
        rcases Nat.le_total i w.length with h | h
        · exact near_stop D st w.length h p hp a1
        · exact near_le h a1
      have : (upto N).countP (near dl al i) = (upto N).length := List.countP_eq_length.mpr full
      rw [upto_len] at this
      omega
    · omega
theorem count_two {α : Type} {P Q : α → Bool} : ∀ {l : List α}, (∀ x ∈ l, P x = true → Q x = true → False) → l.countP P + l.countP Q ≤ l.length
  | [], _ => Nat.le_refl _
  | y :: l, h => by
    have ih := count_two (l := l) fun x hx => h x (List.mem_cons_of_mem _ hx)
    have hy := h y (List.mem_cons_self)
    rw [List.countP_cons, List.countP_cons, List.length_cons]
    cases hp : P y <;> cases hq : Q y <;> simp
    · omega
    · omega
    · omega
    · exact (hy hp hq).elim
theorem cs_count {S : List Int} (C : Cs N S) : (upto N).countP (fun k => decide (k ∈ S)) = S.length := by
  have e : (upto N).filter (fun k => decide (k ∈ S)) = S := by
    refine rise_ext ((upto_rise N).filter _) C.rise fun k => ?_
    rw [List.mem_filter, mem_upto, decide_eq_true_eq]
    exact ⟨fun h => h.2, fun h => ⟨C.rng0 k h, h⟩⟩
  rw [List.countP_eq_length_filter, e]
theorem rch_shorter (D : Dl N dl) {S w : List Int} (C : Cs N S) {p : Int} (hp : p ∈ S) (e : pla dl p w = 0) : (rch N dl S w).length + 1 ≤ S.length := by
  have h := nodup_sub (rch N dl S w) ((S.erase p).map fun q => pla dl q w) (rise_nodup (rch_cs w C).rise) fun k hk => by
    obtain ⟨h0, q, hq, eq⟩ := (mem_rch D w C).mp hk
    refine List.mem_map.mpr ⟨q, (List.mem_erase_of_ne fun z => ?_).mpr hq, eq⟩
    subst z
    omega
  rw [List.length_map, List.length_erase_of_mem hp] at h
  have := List.length_pos_of_mem hp
  omega
theorem shrink (D : Dl N dl) (hN : 1 ≤ N) {al w : List Int} (hw : ∀ a ∈ w, a ∈ al) (hr : ∀ p ∈ upto N, pla dl p w = 0) {S : List Int} (C : Cs N S) (hS : S ≠ []) :
    ∃ u : List Int, u.length + S.length ≤ N ∧ (∀ a ∈ u, a ∈ al) ∧ (rch N dl S u).length + 1 ≤ S.length := by
  have hl : 1 ≤ S.length := List.length_pos_iff.mpr hS
  have hlN : S.length ≤ N := by
    rw [← cs_count C]
    have := List.countP_le_length (p := fun k => decide (k ∈ S)) (l := upto N)
    rw [upto_len] at this
    exact this
  have hc := near_count D hN hw hr (N - S.length)
  have : ∃ p ∈ S, near dl al (N - S.length) p = true := by
    refine Classical.byContradiction fun no => ?_
    have h2 := count_two (P := fun k => decide (k ∈ S)) (Q := near dl al (N - S.length)) (l := upto N) fun x _ hx hq => no ⟨x, of_decide_eq_true hx, hq⟩
    rw [cs_count C, upto_len] at h2
    omega
  obtain ⟨p, hp, hn⟩ := this
  obtain ⟨u, h1, h2, h3⟩ := near_word _ hn
  exact ⟨u, by omega, h2, rch_shorter D C hp h3⟩
def steps (N : Nat) : Nat → Nat
  | 0 => 0
  | k + 1 => (N - (k + 1)) + steps N k
theorem short_word (D : Dl N dl) (hN : 1 ≤ N) {al w : List Int} (hw : ∀ a ∈ w, a ∈ al) (hr : ∀ p ∈ upto N, pla dl p w = 0) :
    ∀ (k : Nat) {S : List Int}, Cs N S → S.length ≤ k → ∃ u : List Int, u.length ≤ steps N k ∧ (∀ a ∈ u, a ∈ al) ∧ rch N dl S u = []
  | 0, S, C, h => ⟨[], Nat.le_refl _, by simp, List.length_eq_zero_iff.mp (Nat.le_zero.mp h)⟩
  | k + 1, S, C, h => by
    by_cases hk : S.length ≤ k
    · obtain ⟨u, h1, h2, h3⟩ := short_word D hN hw hr k C hk
      exact ⟨u, by unfold steps; omega, h2, h3⟩
    · obtain ⟨u, h1, h2, h3⟩ := shrink D hN hw hr C (by intro e; rw [e] at hk; exact hk (Nat.zero_le _))
      obtain ⟨v, g1, g2, g3⟩ := short_word D hN hw hr k (rch_cs (dl := dl) u C) (by omega)
      refine ⟨u ++ v, ?_, fun a ha => ?_, by rw [rch_app]; exact g3⟩
      · rw [List.length_append]
        unfold steps
        omega
      · rcases List.mem_append.mp ha with ha | ha
        · exact h2 a ha
        · exact g2 a ha
theorem steps_le : ∀ N : Nat, N < 12 → steps N (N - 1) ≤ 55 := by decide
/-! ### the search itself -/
def firstS (N : Nat) : List Int := (upto N).filter fun k => decide (0 < k)
theorem first_cs : Cs N (firstS N) := by
  refine ⟨(upto_rise N).filter _, fun k hk => ?_⟩
  unfold firstS at hk
  rw [List.mem_filter, mem_upto, decide_eq_true_eq] at hk
  exact ⟨hk.2, hk.1.2⟩
theorem mem_first {k : Int} : k ∈ firstS N ↔ 0 < k ∧ k < N := by
  unfold firstS
  rw [List.mem_filter, mem_upto, decide_eq_true_eq]
  constructor
  · intro h; exact ⟨h.2, h.1.2⟩
  · intro h; exact ⟨⟨by omega, h.2⟩, h.1⟩
theorem first_len (hN : 1 ≤ N) : (firstS N).length ≤ N - 1 := by
  have h := nodup_sub (firstS N) ((upto N).erase 0) (rise_nodup first_cs.rise) fun k hk => by
    have := mem_first.mp hk
    exact (List.mem_erase_of_ne (by omega)).mpr (mem_upto.mpr ⟨by omega, this.2⟩)
  rw [List.length_erase_of_mem (mem_upto.mpr ⟨Int.le_refl _, by omega⟩), upto_len] at h
  exact h
/-- all subsets, as lists in order -/
def subs : List Int → List (List Int)
  | [] => [[]]
  | x :: l => subs l ++ (subs l).map fun m => x :: m
theorem subs_len : ∀ l : List Int, (subs l).length = 2 ^ l.length
  | [] => rfl
  | x :: l => by
    show (subs l ++ (subs l).map fun m => x :: m).length = 2 ^ (l.length + 1)
    rw [List.length_append, List.length_map, subs_len l, Nat.pow_succ]
    omega
theorem filter_subs (P : Int → Bool) : ∀ l : List Int, l.filter P ∈ subs l
  | [] => List.mem_singleton.mpr rfl
  | x :: l => by
    have ih := filter_subs P l
    show (x :: l).filter P ∈ subs l ++ (subs l).map fun m => x :: m
    rw [List.filter_cons]
    split
    · exact List.mem_append.mpr (.inr (List.mem_map.mpr ⟨_, ih, rfl⟩))
    · exact List.mem_append.mpr (.inl ih)
theorem cs_subs {S : List Int} (C : Cs N S) : S ∈ subs (upto N) := by
  have e : (upto N).filter (fun k => decide (k ∈ S)) = S := by
    refine rise_ext ((upto_rise N).filter _) C.rise fun k => ?_
    rw [List.mem_filter, mem_upto, decide_eq_true_eq]
    exact ⟨fun h => h.2, fun h => ⟨C.rng0 k h, h⟩⟩
  rw [← e]
  exact filter_subs _ _
/-- the search: ord what was found in its sequence, the first k of it are done; of the k-th, m numbers are done -/
structure Bf (N : Nat) (dl : Int → Int → Int) (al : List Int) (ord : List (List Int × List Int)) (k m : Nat) : Prop where
  head : ord[0]? = some (firstS N, [])
  is : ∀ e ∈ ord, e.1 = rch N dl (firstS N) e.2 ∧ e.1 ≠ [] ∧ ∀ a ∈ e.2, a ∈ al
  nd : (ord.map (·.1)).Nodup
  short : ∀ (i : Nat) e, ord[i]? = some e → e.2.length ≤ i
  mono : ∀ (i j : Nat) e f, i ≤ j → ord[i]? = some e → ord[j]? = some f → e.2.length ≤ f.2.length
  near : ∀ (i : Nat) e f, ord[k]? = some e → ord[i]? = some f → f.2.length ≤ e.2.length + 1
  done : ∀ (i : Nat) e a, i < k → ord[i]? = some e → a ∈ al → ∃ f ∈ ord, f.1 = img N dl a e.1 ∧ f.2.length ≤ e.2.length + 1
  half : ∀ e a, ord[k]? = some e → a ∈ al.take m → ∃ f ∈ ord, f.1 = img N dl a e.1 ∧ f.2.length ≤ e.2.length + 1
variable {al : List Int} {ord : List (List Int × List Int)} {k m : Nat}
theorem Bf.start (hN : 2 ≤ N) : Bf N dl al [(firstS N, [])] 0 0 := by
  have h1 : firstS N ≠ [] := List.ne_nil_of_mem (a := 1) (mem_first.mpr ⟨by omega, by omega⟩)
  refine ⟨rfl, fun e he => ?_, by simp, fun i e he => ?_, fun i j e f _ he hf => ?_, fun i e f he hf => ?_, fun i _ _ hi => absurd hi (by omega), fun e a _ ha => by simp at ha⟩
  · rw [List.mem_singleton.mp he]
    exact ⟨rfl, h1, by simp⟩
  · have := List.mem_singleton.mp (List.mem_of_getElem? he)
    rw [this]
    exact Nat.zero_le _
  · rw [List.mem_singleton.mp (List.mem_of_getElem? he)]
    exact Nat.zero_le _
  · rw [List.mem_singleton.mp (List.mem_of_getElem? hf)]
    exact Nat.zero_le _
theorem Bf.few (B : Bf N dl al ord k m) (h11 : N ≤ 11) : ord.length ≤ 2048 := by
  have h := nodup_sub (ord.map (·.1)) (subs (upto N)) B.nd fun S hS => by
    obtain ⟨e, he, rfl⟩ := List.mem_map.mp hS
    obtain ⟨e1, _⟩ := B.is e he
    rw [e1]
    exact cs_subs (rch_cs _ first_cs)
  rw [List.length_map, subs_len, upto_len] at h
  have : 2 ^ N ≤ 2 ^ 11 := Nat.pow_le_pow_right (by decide) h11
  omega
/-- the next entry -/
theorem Bf.next (B : Bf N dl al ord k al.length) (hk : k < ord.length) : Bf N dl al ord (k + 1) 0 := by
  refine ⟨B.head, B.is, B.nd, B.short, B.mono, fun i e f he hf => ?_, fun i e a hi he ha => ?_, fun e a _ ha => by simp at ha⟩
  · have hk2 : ord[k]? = some ord[k] := List.getElem?_eq_getElem hk
    have h1 := B.near i _ f hk2 hf
    have h2 := B.mono k (k + 1) _ e (Nat.le_succ _) hk2 he
    omega
  · by_cases hik : i < k
    · exact B.done i e a hik he ha
    · have : i = k := by omega
      subst this
      exact B.half e a he (by rw [List.take_length]; exact ha)
/-- a set that is there already -/
theorem Bf.old (B : Bf N dl al ord k m) {e : List Int × List Int} {a : Int} (he : ord[k]? = some e) (ha : al[m]? = some a) (hin : img N dl a e.1 ∈ ord.map (·.1)) : Bf N dl al ord k (m + 1) := by
  refine ⟨B.head, B.is, B.nd, B.short, B.mono, B.near, B.done, fun e' b he' hb => ?_⟩
  have : e = e' := Option.some.inj (he.symm.trans he')
  subst this
  rw [List.take_add_one, ha] at hb
  rcases List.mem_append.mp hb with hb | hb
  · exact B.half e b he hb
  · have hb : b = a := by simpa using hb
    subst hb
    obtain ⟨f, hf, ef⟩ := List.mem_map.mp hin
    refine ⟨f, hf, ef, ?_⟩
    obtain ⟨i, hi⟩ := List.getElem?_of_mem hf
    exact B.near i e f he hi
theorem get_snoc {α : Type} {l : List α} {x y : α} {i : Nat} (h : (l ++ [x])[i]? = some y) : (l[i]? = some y) ∨ (i = l.length ∧ y = x) := by
  rcases Nat.lt_trichotomy i l.length with hi | hi | hi
  · rw [List.getElem?_append_left hi] at h
    exact .inl h
  · subst hi
    rw [List.getElem?_append_right (Nat.le_refl _), Nat.sub_self] at h
    exact .inr ⟨rfl, (Option.some.inj h).symm⟩
  · rw [List.getElem?_eq_none (by rw [List.length_append]; show l.length + 1 ≤ i; omega)] at h
    cases h
theorem get_left {α : Type} {l : List α} {x y : α} {i : Nat} (h : l[i]? = some y) : (l ++ [x])[i]? = some y := by
  rw [List.getElem?_append_left (List.getElem?_eq_some_iff.mp h).1]
  exact h
/-- a new set -/
theorem Bf.new (B : Bf N dl al ord k m) {e : List Int × List Int} {a : Int} (he : ord[k]? = some e) (ha : al[m]? = some a) (hne : img N dl a e.1 ≠ []) (hnot : img N dl a e.1 ∉ ord.map (·.1)) :
    Bf N dl al (ord ++ [(img N dl a e.1, e.2 ++ [a])]) k (m + 1) := by
  have hk : k < ord.length := (List.getElem?_eq_some_iff.mp he).1
  have hmem : e ∈ ord := List.mem_of_getElem? he
  have hel : (e.2 ++ [a]).length = e.2.length + 1 := by rw [List.length_append]; rfl
  have hke : (ord ++ [(img N dl a e.1, e.2 ++ [a])])[k]? = some e := get_left he
  refine ⟨get_left B.head, fun f hf => ?_, ?_, fun i f hf => ?_, fun i j f g hij hf hg => ?_, fun i f g hf hg => ?_, fun i f b hi hf hb => ?_, fun f b hf hb => ?_⟩
  · rcases List.mem_append.mp hf with hf | hf
    · exact B.is f hf
    · rw [List.mem_singleton.mp hf]
      refine ⟨?_, hne, fun b hb => ?_⟩
      · show img N dl a e.1 = rch N dl (firstS N) (e.2 ++ [a])
        rw [rch_app, ← (B.is e hmem).1]
        rfl
      · rcases List.mem_append.mp hb with hb | hb
        · exact (B.is e hmem).2.2 b hb
        · rw [List.mem_singleton.mp hb]
          exact List.mem_of_getElem? ha
  · rw [List.map_append, List.nodup_append]
    refine ⟨B.nd, by simp, fun x hx y hy => ?_⟩
    have hy : y = img N dl a e.1 := by simpa using hy
    rw [hy]
    exact fun z => hnot (z ▸ hx)
  · rcases get_snoc hf with hf | ⟨hi, rfl⟩
    · exact B.short i f hf
    · have := B.short k e he
      show (e.2 ++ [a]).length ≤ i
      omega
  · rcases get_snoc hf with hf | ⟨hi, rfl⟩
    · rcases get_snoc hg with hg | ⟨hj, rfl⟩
      · exact B.mono i j f g hij hf hg
      · have h1 := B.near i e f he hf
        show f.2.length ≤ (e.2 ++ [a]).length
        omega
    · rcases get_snoc hg with hg | ⟨hj, rfl⟩
      · have := (List.getElem?_eq_some_iff.mp hg).1
        omega
      · exact Nat.le_refl _
  · have hf : f = e := Option.some.inj (hf.symm.trans hke)
    subst hf
    rcases get_snoc hg with hg | ⟨hj, rfl⟩
    · exact B.near i f g he hg
    · show (f.2 ++ [a]).length ≤ _
      omega
  · rcases get_snoc hf with hf | ⟨hi', rfl⟩
    · obtain ⟨g, hg, e1, e2⟩ := B.done i f b hi hf hb
      exact ⟨g, List.mem_append_left _ hg, e1, e2⟩
    · omega
  · have hf : f = e := Option.some.inj (hf.symm.trans hke)
    subst hf
    rw [List.take_add_one, ha] at hb
    rcases List.mem_append.mp hb with hb | hb
    · obtain ⟨g, hg, e1, e2⟩ := B.half f b he hb
      exact ⟨g, List.mem_append_left _ hg, e1, e2⟩
    · have hb : b = a := by simpa using hb
      subst hb
      exact ⟨_, List.mem_append_right _ (List.mem_singleton.mpr rfl), rfl, by show (f.2 ++ [b]).length ≤ _; omega⟩
/-- what a word reaches within the done entries -/
theorem Bf.along (B : Bf N dl al ord k m) {L : Nat} (hL : ∀ (i : Nat) e, ord[i]? = some e → e.2.length < L → i < k) :
    ∀ (w : List Int), (∀ a ∈ w, a ∈ al) → w.length ≤ L → ∃ f ∈ ord, f.1 = rch N dl (firstS N) w ∧ f.2.length ≤ w.length := by
  intro w
  induction h : w.length generalizing w with
  | zero =>
    intro _ _
    have : w = [] := List.length_eq_zero_iff.mp h
    subst this
    exact ⟨_, List.mem_of_getElem? B.head, rfl, Nat.le_refl _⟩
  | succ n ih =>
    intro hw hl
    obtain ⟨v, a, rfl⟩ : ∃ v a, w = v ++ [a] := ⟨w.dropLast, w.getLast (List.ne_nil_of_length_pos (by omega)), (List.dropLast_concat_getLast _).symm⟩
    have hvl : v.length = n := by rw [List.length_append] at h; have q : ([a] : List Int).length = 1 := rfl; omega
    obtain ⟨f, hf, e1, e2⟩ := ih v hvl (fun b hb => hw b (List.mem_append_left _ hb)) (by omega)
    obtain ⟨i, hi⟩ := List.getElem?_of_mem hf
    obtain ⟨g, hg, g1, g2⟩ := B.done i f a (hL i f hi (by omega)) hi (hw a (List.mem_append_right _ (List.mem_singleton.mpr rfl)))
    refine ⟨g, hg, ?_, by omega⟩
    rw [g1, e1, rch_app]
    rfl
/-- no text is in step: the search has come to its end -/
theorem Bf.none (B : Bf N dl al ord k m) (hk : ord.length ≤ k) {w : List Int} (hw : ∀ a ∈ w, a ∈ al) : rch N dl (firstS N) w ≠ [] := by
  obtain ⟨f, hf, e1, _⟩ := B.along (L := w.length) (fun i e hi _ => by have := (List.getElem?_eq_some_iff.mp hi).1; omega) w hw (Nat.le_refl _)
  rw [← e1]
  exact (B.is f hf).2.1
/-- the text that is returned: it is in step, and short -/
theorem Bf.found (D : Dl N dl) (hN : 2 ≤ N) (h11 : N ≤ 11) (B : Bf N dl al ord k m) {e : List Int × List Int} {a : Int} (he : ord[k]? = some e) (ha : a ∈ al) (hz : img N dl a e.1 = []) :
    (∀ p ∈ firstS N, pla dl p (e.2 ++ [a]) = 0) ∧ (∀ b ∈ e.2 ++ [a], b ∈ al) ∧ (e.2 ++ [a]).length ≤ 55 := by
  have hmem : e ∈ ord := List.mem_of_getElem? he
  have hal : ∀ b ∈ e.2 ++ [a], b ∈ al := fun b hb => by
    rcases List.mem_append.mp hb with hb | hb
    · exact (B.is e hmem).2.2 b hb
    · rw [List.mem_singleton.mp hb]; exact ha
  have hr : rch N dl (firstS N) (e.2 ++ [a]) = [] := by
    rw [rch_app, ← (B.is e hmem).1]
    exact hz
  have hp := (rch_nil D first_cs).mp hr
  refine ⟨hp, hal, ?_⟩
  have hall : ∀ p ∈ upto N, pla dl p (e.2 ++ [a]) = 0 := fun p hq => by
    have := mem_upto.mp hq
    rcases Int.lt_or_le 0 p with h | h
    · exact hp p (mem_first.mpr ⟨h, this.2⟩)
    · have : p = 0 := by omega
      rw [this]
      exact pla_zero D _
  obtain ⟨u, h1, h2, h3⟩ := short_word D (by omega) hal hall (N - 1) first_cs (first_len (by omega))
  have h4 := steps_le N (by omega)
  refine Classical.byContradiction fun no => ?_
  have hel : (e.2 ++ [a]).length = e.2.length + 1 := by rw [List.length_append]; rfl
  obtain ⟨f, hf, f1, _⟩ := B.along (L := e.2.length) (fun i g hi hlt => by
    rcases Nat.lt_or_ge i k with h | h
    · exact h
    · have := B.mono k i e g h he hi
      omega) u h2 (by omega)
  rw [h3] at f1
  exact (B.is f hf).2.1 f1
end

/-! ### the search over the receiver's places -/
theorem nxts_free (h : Shp) : ∀ (xs ys : List Int) (p : Int), xs.length = ys.length → 1 ≤ p → p + xs.length ≤ h.fs → nxts h p xs = nxts h p ys
  | [], [], _, _, _, _ => rfl
  | [], _ :: _, _, e, _, _ => nomatch e
  | _ :: _, [], _, e, _, _ => nomatch e
  | x :: xs, y :: ys, p, e, h1, h2 => by
    have h2' : p + ((xs.length + 1 : Nat) : Int) ≤ h.fs := h2
    have e1 : ∀ l : Int, nxt h p l = p + 1 := fun l => by
      unfold nxt
      rw [if_neg (by omega), if_neg (by omega), if_pos (by omega)]
    show nxts h (nxt h p x) xs = nxts h (nxt h p y) ys
    rw [e1, e1]
    exact nxts_free h xs ys (p + 1) (Nat.succ.inj e) (by omega) (by omega)
theorem dlt_zero {h : Shp} (ok : h.Ok) (n : Int) : dlt h n 0 = 0 := by
  have z : (0 : Int) < 2 ^ h.b := pow_pos2 h.b
  obtain ⟨t, e1, e2, e3, e4⟩ := run_frm ok (n := 0) (Int.le_refl 0) z
  have q : dlt h 0 0 = 0 := by
    unfold dlt frm
    rw [rep_last ok.s1, ← List.append_assoc, nxts_app]
    have : nxts h 0 (((0 :: bitsOf h.b 0) ++ parLs h 0) ++ List.replicate (h.s - 1) 1) = t.pl := by
      rw [← e1, sta_pl]; rfl
    rw [this]
    show nxt h t.pl 1 = 0
    rw [← aft_pl, e4]; rfl
  refine Eq.trans ?_ q
  unfold dlt frm
  rw [nxts_app, nxts_app h 0 ((0 :: bitsOf h.b 0) ++ parLs h 0)]
  congr 1
  show nxts h 1 (bitsOf h.b n ++ parLs h n) = nxts h 1 (bitsOf h.b 0 ++ parLs h 0)
  refine nxts_free h _ _ 1 ?_ (by decide) ?_
  · simp [bits_len, parLs_len]
  · rw [List.length_append, bits_len, parLs_len]
    unfold Shp.fs
    omega
theorem dlt_dl {h : Shp} (ok : h.Ok) : Dl h.size (dlt h) := ⟨dlt_zero ok, fun a p h0 h1 => dlt_rng ok a (by omega) h1⟩
theorem size_ge {h : Shp} (ok : h.Ok) : 3 ≤ h.size := by
  have := ok.b1; have := ok.s1; unfold Shp.size; omega
/-- the law's last text -/
theorem last_text : ∀ p : Int, 0 ≤ p → p < ((⟨8, .non, 1⟩ : Shp).size : Int) → plAfter ⟨8, .non, 1⟩ p [0] = 0 := by
  have h : ∀ q : Nat, q < 10 → plAfter ⟨8, .non, 1⟩ (q : Int) [0] = 0 := by decide
  intro p h0 h1
  have h1 : p < 10 := h1
  have := h p.toNat (by omega)
  rw [Int.toNat_of_nonneg h0] at this
  exact this
end Sb

/-! rules that the layer lacks: a set comprehension of ints, {t: v} with a tuple key, a dict comprehension over a list, a power of a big base -/
namespace Sb
open PySem PySem.Spec PyProof.Rows L2
section
variable {X : Cx}
theorem addI_ok {pins : List (Addr × Obj)} {σ : L2.St} {H : Hp} {s : Shared} {E : Value → Shared → Prop} {D : Addr} {S : Int → Bool} {n : Nat} {y : Int} {tk : Tok} {Q : Value → Shared → Prop} (I : Inv X pins σ H s) (hD : H D = some (SetO X.w D S n)) (room : n + 1 < scanBound)
    (h : ∀ s', Inv X pins σ (upd H D (SetO X.w D (fun j => S j || decide (j = y)) (if S y = true then n else n + 1))) s' → Q .none s') : wpAny (model X.prog X.w) X.A (call (.builtin "set.add") [.ref D, .int y tk]) Q E s := by
  have R := setO_get I hD
  refine setR_add R room fun h' sb new => ?_
  have he : ∃ u, h'.get? D = some u := by
    have ⟨o, _, _, _, ho, _⟩ := new
    exact ⟨o, ho⟩
  exact h _ (I.write (e := D) (t' := s.toks + 1) (by rw [hD]; trivial) (.inl rfl) (fun b u hb hu => (sb.2 b hb).trans hu) he (setO_new new))
/-- {elt for target in iter if ..}, elt an int: D the new set -/
def tScI (w : World) (wi : TI) (g : TG) (tt : TT) (te : TE) (vs : List Nat) : TE := fun σ H Q => wi σ H fun J H1 => ∀ D, H1 D = none → ∃ W : Nat → Nat → Hp → Prop, (∃ m, W 0 m (upd H1 D (SetO w D (fun _ => false) 0))) ∧ ∀ i m H, W i m H →
  (J.stop i H ∧ Q (.ref D) H) ∨ (J.go i H ∧ ∃ Nx : Hp → Prop, (∀ H', Nx H' → ∃ m', m' < m ∧ W (i + 1) m' H') ∧ ∀ x H', J.yld i H x H' → g x (wipe σ vs) H' fun σ2 H2 => wipe σ2 vs = wipe σ vs ∧ tt σ2 H2 fun b H3 =>
    if b = true then te σ2 H3 fun y H4 => ∃ (c : Int) (S : Int → Bool) (n : Nat), y = .int c ∧ H4 D = some (SetO w D S n) ∧ n + 1 < scanBound ∧ Nx (upd H4 D (SetO w D (fun j => S j || decide (j = c)) (if S c = true then n else n + 1))) else Nx H3)
theorem scI_core {pins : List (Addr × Obj)} {s : Shared} {σ : L2.St} {H : Hp} {Q : VK} {elt tg iter : Expr} {ifs : List Expr} {scope : Scope} {own : List (PySem.Str × Nat)} {pos pos' : Pos} {wi : TI} {g : TG} {tt : TT} {te : TE} {use : Option (Value → Sem Unit)} {Qf : Value → Shared → Prop}
    (hc : X.calm = true) (hN : X.N.Nodup) (I : Inv X pins σ H s) (hi : PI X tg iter wi) (ok : BlkOk X.N X.env.scope scope own)
    (hg : ∀ (s : Shared) (H : Hp) (C : Addr) (cl : List (PySem.Str × Addr)) (fp : List Addr), PG (X.blk s H scope (compEnvC scope cl C X.env) fp) tg g) (ht : ∀ (s : Shared) (H : Hp) (C : Addr) (cl : List (PySem.Str × Addr)) (fp : List Addr), PTs (X.blk s H scope (compEnvC scope cl C X.env) fp) ifs tt)
    (he : ∀ (s : Shared) (H : Hp) (C : Addr) (cl : List (PySem.Str × Addr)) (fp : List Addr), PE (X.blk s H scope (compEnvC scope cl C X.env) fp) elt te) (hs : ∀ x, foldedSetIterable iter X.env x = pure x)
    (h : tScI X.w wi g tt te (own.map (·.2)) σ H Q)
    (hRR : ∀ D C s' m H', Inv X pins σ H' s' → Q (.ref D) H' → s'.heap.Ns C m → FpOk X pins H' C → compPost (model X.prog X.w) X.A X.xe use Qf (.ref D) C (.ok .next) s') :
    wpAny (model X.prog X.w) X.A (comprehension (.SetComp elt [⟨tg, iter, ifs, 0⟩] scope pos) scope X.env pos' (newSet (.type "set")) false (eval iter X.env) use) Qf X.xe s := by
  have hfree : ∀ y ∈ scope.names, y.2 = .free → ∃ c, X.env.cells.lookup y.1 = some c := fun y hy e => by
    rcases ok.free y hy e with k | k
    · exact I.ok.has _ (.inl k)
    · exact I.ok.has _ (.inr k)
  refine wpAny_comprehension_free (use := use) rfl hs (closure_ok hfree) ok.kind (fun y hy e => by rw [ok.uniq y hy, e])
    (thn (hi.run pins s σ H _ I h) fun xv s1 hx => thn hx fun itv s2 h2 => ?_)
  obtain ⟨it, fp, tn, J, H2, e, I2, T, st2, f2, q⟩ := h2
  subst e
  refine PpSet.newSet_ok (newEnv_comp ?_)
  generalize hD : s2.heap.objs.size = D
  have hDn : H2 D = none := I2.hok.fresh (Nat.le_of_eq hD)
  obtain ⟨W, ⟨m0, w0⟩, turn⟩ := q D hDn
  -- the new list
  generalize hs3 : ({ s2 with heap := s2.heap.push { cls := .type "set", dict := none, data := .set #[] 0 (.fresh 0 0 (!X.w.params.followText "set-order")) } } : Shared) = s3
  have I3 : Inv X pins σ (upd H2 D (SetO X.w D (fun _ => false) 0)) s3 := by
    rw [← hs3]
    refine I2.laid (t' := s2.toks) (fun b o e => Heap.get?_push_of_some _ e) (Nat.le_of_eq hD) ?_
    rw [← hD]
    exact setO_new (setR_fresh X.w)
  have h3 : s3.heap = s2.heap.push { cls := .type "set", dict := none, data := .set #[] 0 (.fresh 0 0 (!X.w.params.followText "set-order")) } := by rw [← hs3]
  have sz : ∀ b ∈ fp, b < s2.heap.objs.size := fun b hb => by
    obtain ⟨o, e, _⟩ := T.obj _ _ st2 b hb
    exact Heap.lt_size e
  have f3 : ∀ b ∈ fp, FpOk X pins (upd H2 D (SetO X.w D (fun _ => false) 0)) b ∧ b < s3.heap.objs.size := fun b hb => by
    have hlt := sz b hb
    refine ⟨⟨?_, (f2 b hb).2⟩, by rw [h3, Heap.size_push]; exact Nat.lt_succ_of_lt hlt⟩
    rw [upd_ne (by rw [← hD]; exact Nat.ne_of_lt hlt)]
    exact (f2 b hb).1
  have st3 : tn 0 s3.heap := T.keep _ _ _ st2 fun b _ o e => by rw [h3]; exact Heap.get?_push_of_some _ e
  have I4 := block_start I3 ok hN f3
  have pg := hg s3 (upd H2 D (SetO X.w D (fun _ => false) 0)) s3.heap.objs.size (cellsFrom (s3.heap.objs.size + 1) scope.names (cloFrom X.env.cells scope.names [])) fp
  have pt := ht s3 (upd H2 D (SetO X.w D (fun _ => false) 0)) s3.heap.objs.size (cellsFrom (s3.heap.objs.size + 1) scope.names (cloFrom X.env.cells scope.names [])) fp
  have pe := he s3 (upd H2 D (SetO X.w D (fun _ => false) 0)) s3.heap.objs.size (cellsFrom (s3.heap.objs.size + 1) scope.names (cloFrom X.env.cells scope.names [])) fp
  show codeAny _ _ (.compStart (.SetComp elt [⟨tg, iter, ifs, 0⟩] scope pos) 0 (.ref it) (.ref D) (compEnvC scope (cellsFrom (s3.heap.objs.size + 1) scope.names (cloFrom X.env.cells scope.names [])) s3.heap.objs.size X.env)) (compPost (model X.prog X.w) X.A X.xe use Qf (.ref D) s3.heap.objs.size) { s3 with heap := pushCells (s3.heap.push { cls := .type "dict", data := .dict #[] }) scope.names }
  have nfp : ∀ b ∈ fp, (upd H2 D (SetO X.w D (fun _ => false) 0)) b = none := fun b hb => (f3 b hb).1.1
  generalize hce : compEnvC scope (cellsFrom (s3.heap.objs.size + 1) scope.names (cloFrom X.env.cells scope.names [])) s3.heap.objs.size X.env = ce at I4 pg pt pe ⊢
  have cL : ce.locals = s3.heap.objs.size := by subst hce; rfl
  generalize hH3 : upd H2 D (SetO X.w D (fun _ => false) 0) = H3 at I3 I4 pg pt pe w0 nfp f3
  generalize hs4 : ({ s3 with heap := pushCells (s3.heap.push { cls := .type "dict", data := .dict #[] }) scope.names } : Shared) = s4 at I4 ⊢
  have st4 : tn 0 s4.heap := T.keep _ _ _ st3 fun b _ o e => by rw [← hs4]; exact pushCells_keeps _ _ _ _ (Heap.get?_push_of_some _ e)
  have stat : ∀ {σ' : L2.St} {H' : Hp} {s' : Shared}, Inv (X.blk s3 H3 scope ce fp) [] σ' H' s' → (∀ b ∈ fp, H' b = none) → ∀ b ∈ fp, FpOk (X.blk s3 H3 scope ce fp) [] H' b := fun {σ' H' s'} I' hn b hb =>
    ⟨hn b hb, (I'.ok.exf b hb).1, I'.ok.exfs b hb, .inl hb, fun x c e => (I'.ok.exf b hb).2 x c e, fun p hp => absurd (show p ∈ ([] : List (Addr × Obj)) ++ [] from hp) (by simp)⟩
  have loop : codeAny (model X.prog X.w) X.A (.compLoop (.SetComp elt [⟨tg, iter, ifs, 0⟩] scope pos) 0 (.ref it) (.ref D) ce) (compPost (model X.prog X.w) X.A X.xe use Qf (.ref D) s3.heap.objs.size) s4 := by
    refine PpSet.compLoopS_any (fun n s' => ∃ i H', Inv (X.blk s3 H3 scope ce fp) [] (wipe σ (own.map (·.2))) H' s' ∧ tn i s'.heap ∧ (∀ b ∈ fp, H' b = none) ∧ W i n H') ?_ m0 ⟨0, H3, I4, st4, nfp, w0⟩
    rintro n s5 ⟨i, H5, I5, st5, n5, w5⟩
    rcases turn i n H5 w5 with ⟨stop, qq⟩ | ⟨go, Nx, hNx, step⟩
    · have td := T.done (X.blk s3 H3 scope ce fp) rfl rfl rfl hc i [] s5 _ H5 (fun _ _ => False) I5 (stat I5 n5) st5 stop
      refine thnF td fun r s6 ⟨hr, I6⟩ => ?_
      subst hr
      -- back in the def's context
      have I7 : Inv X pins σ H5 s6 := I3.call' (ch := fp) I6.os I6.base I6.hok I6.bare fun b hb => ⟨(f3 b hb).1.2.2.2.1, (f3 b hb).1.2.1, (f3 b hb).1.2.2.2.2.1, (f3 b hb).1.2.2.2.2.2⟩
      have nC : H5 s3.heap.objs.size = none := by
        have z : H5 ce.locals = none := I6.free
        rw [cL] at z
        exact z
      obtain ⟨m, hn, _⟩ := I6.loc
      have hn : s6.heap.Ns ce.locals m := hn
      rw [cL] at hn
      exact hRR D s3.heap.objs.size s6 m H5 I7 qq hn (I3.fpOk (Nat.le_refl _) nC)
    · have ti := T.item (X.blk s3 H3 scope ce fp) rfl rfl rfl hc i [] s5 _ H5 (fun _ _ => False) I5 (stat I5 n5) st5 go
      refine thnF ti fun r s6 ⟨u, hr, h6⟩ => ?_
      subst hr
      refine thnF h6 fun _ s7 ⟨x, H7, I7, r7, y7, st7, n7⟩ => ?_
      have I7' := I7.pinned (stat I7 n7) (T.obj _ _ st7)
      refine thnF (pg.run _ s7 _ H7 x u _ I7' r7 (step x H7 y7)) fun _ s8 ⟨σ8, H8, I8, hw8, q8⟩ => ?_
      refine thnF (pt.run _ s8 σ8 H8 _ I8 q8) fun b s9 ⟨H9, I9, q9⟩ => ?_
      -- the turn's end
      have fin : ∀ {s' : Shared} {H' : Hp}, Inv (X.blk s3 H3 scope ce fp) ([] ++ pinsAt fp s7.heap) σ8 H' s' → Nx H' → ∃ m, m < n ∧ ∃ i H', Inv (X.blk s3 H3 scope ce fp) [] (wipe σ (own.map (·.2))) H' s' ∧ tn i s'.heap ∧ (∀ b ∈ fp, H' b = none) ∧ W i m H' := fun {s' H'} I' nx => by
        obtain ⟨m', hm, w'⟩ := hNx H' nx
        have pin' : ∀ b ∈ fp, ∀ o, s7.heap.get? b = some o → s'.heap.get? b = some o ∧ H' b = none := fun b hb o e =>
          let z := I'.pin (b, o) (List.mem_append_right _ (List.mem_append_right _ (mem_pinsAt hb e)))
          ⟨z.1, z.2.1⟩
        have hl : (wipe σ (own.map (·.2))).length = σ8.length := by rw [← hw8, wipe_length]
        refine ⟨m', hm, i + 1, H', (I'.unpinned (pins := [])).weak hl (fun j v e => ?_), T.keep _ _ _ st7 fun b hb o e => (pin' b hb o e).1, fun b hb => ?_, w'⟩
        · rw [← hw8] at e
          exact (wipe_some e).1
        · obtain ⟨o, e, _⟩ := T.obj _ _ st7 b hb
          exact (pin' b hb o e).2
      cases b with
      | false =>
        simp only [Bool.false_eq_true, if_false] at q9 ⊢
        exact fin I9 q9
      | true =>
        simp only [if_true] at q9 ⊢
        refine thnF (pe.run _ s9 σ8 H9 _ I9 q9) fun z s10 ⟨yv, H10, I10, r10, cb, S0, n0, ey, hD10, hz10, nx⟩ => ?_
        subst ey
        obtain ⟨tk, ez⟩ := (show ∃ t, z = Value.int cb t from r10)
        subst ez
        exact addI_ok (X := X.blk s3 H3 scope ce fp) I10 hD10 hz10 fun s11 I11 => fin I11 nx
  exact PpSet.codeAny_compStart_set loop (T.self X.A 0 _ _ _ st4 loop)
/-- as a value -/
theorem pe_scI {elt tg iter : Expr} {ifs : List Expr} {scope : Scope} {own : List (PySem.Str × Nat)} {pos : Pos} {wi : TI} {g : TG} {tt : TT} {te : TE} (hc : X.calm = true) (hN : X.N.Nodup) (hi : PI X tg iter wi) (ok : BlkOk X.N X.env.scope scope own)
    (hg : ∀ (s : Shared) (H : Hp) (C : Addr) (cl : List (PySem.Str × Addr)) (fp : List Addr), PG (X.blk s H scope (compEnvC scope cl C X.env) fp) tg g) (ht : ∀ (s : Shared) (H : Hp) (C : Addr) (cl : List (PySem.Str × Addr)) (fp : List Addr), PTs (X.blk s H scope (compEnvC scope cl C X.env) fp) ifs tt)
    (he : ∀ (s : Shared) (H : Hp) (C : Addr) (cl : List (PySem.Str × Addr)) (fp : List Addr), PE (X.blk s H scope (compEnvC scope cl C X.env) fp) elt te) (hs : ∀ x, foldedSetIterable iter X.env x = pure x := by intro _; rfl) :
    PE X (.SetComp elt [⟨tg, iter, ifs, 0⟩] scope pos) (tScI X.w wi g tt te (own.map (·.2))) := by
  refine ⟨fun pins s σ H Q I h => ?_⟩
  rw [PpSet.eval_SetComp]
  refine scI_core hc hN I hi ok hg ht he hs h fun D C s' m H' I' q hn f => ⟨m, hn, fun h'' sb => ?_⟩
  obtain ⟨f0, f1, f2, f3, f4, f5⟩ := f
  exact ⟨.ref D, H', I'.turned (t' := s'.toks) (fun b o hb e => (sb.2 b hb).trans e) f0 f1 f3 f4 f5, rfl, q⟩

/-- over a tuple that the block leaves as it is -/
theorem scI_tup {w : World} {K : PySem.W.Frag} {a : Addr} {xs : List V} {g : TG} {tt : TT} {te : TE} {vs : List Nat} {σ : L2.St} {H1 : Hp} {D : Addr} {Qd : Hp → Prop} (Pv : Nat → Hp → Prop) (h0 : Pv 0 (upd H1 D (SetO w D (fun _ => false) 0))) (hl : ∀ i H, i ≤ xs.length → Pv i H → SqT K H a xs)
    (hs : ∀ i x H, xs[i]? = some x → Pv i H → g x (wipe σ vs) H fun σ2 H2 => wipe σ2 vs = wipe σ vs ∧ tt σ2 H2 fun b H3 =>
      if b = true then te σ2 H3 fun y H4 => ∃ (c : Int) (S : Int → Bool) (n : Nat), y = .int c ∧ H4 D = some (SetO w D S n) ∧ n + 1 < scanBound ∧ Pv (i + 1) (upd H4 D (SetO w D (fun j => S j || decide (j = c)) (if S c = true then n else n + 1))) else Pv (i + 1) H3) (hd : ∀ H, Pv xs.length H → Qd H) :
    ∃ W : Nat → Nat → Hp → Prop, (∃ m, W 0 m (upd H1 D (SetO w D (fun _ => false) 0))) ∧ ∀ i m H, W i m H →
      ((Itt K a).stop i H ∧ Qd H) ∨ ((Itt K a).go i H ∧ ∃ Nx : Hp → Prop, (∀ H', Nx H' → ∃ m', m' < m ∧ W (i + 1) m' H') ∧ ∀ x H', (Itt K a).yld i H x H' → g x (wipe σ vs) H' fun σ2 H2 => wipe σ2 vs = wipe σ vs ∧ tt σ2 H2 fun b H3 =>
        if b = true then te σ2 H3 fun y H4 => ∃ (c : Int) (S : Int → Bool) (n : Nat), y = .int c ∧ H4 D = some (SetO w D S n) ∧ n + 1 < scanBound ∧ Nx (upd H4 D (SetO w D (fun j => S j || decide (j = c)) (if S c = true then n else n + 1))) else Nx H3) := by
  refine ⟨fun i m H => m = xs.length - i ∧ i ≤ xs.length ∧ Pv i H, ⟨xs.length, by simp, Nat.zero_le _, h0⟩, ?_⟩
  rintro i m H ⟨rfl, hi, p⟩
  have q := hl i H hi p
  by_cases hlt : i < xs.length
  · refine .inr ⟨⟨xs, xs[i], q, by simp [hlt]⟩, Pv (i + 1), fun H' p' => ⟨xs.length - (i + 1), by omega, rfl, hlt, p'⟩, fun x H' y => ?_⟩
    obtain ⟨e, y⟩ := y
    subst e
    exact hs i x _ (y xs q) p
  · have e : i = xs.length := by omega
    subst e
    exact .inl ⟨⟨xs, q, Nat.le_refl _⟩, hd H p⟩
/-- a dict comprehension over a list that the block leaves as it is -/
theorem dc_list {K : PySem.W.Frag} {a : Addr} {xs : List V} {g : TG} {tt : TT} {tk tv : TE} {vs : List Nat} {σ : L2.St} {H1 : Hp} {D : Addr} {Qd : Hp → Prop} (Pv : Nat → Hp → Prop) (h0 : Pv 0 (upd H1 D (.dK []))) (hl : ∀ i H, i ≤ xs.length → Pv i H → SqL K H a xs)
    (hs : ∀ i x H, xs[i]? = some x → Pv i H → g x (wipe σ vs) H fun σ2 H2 => wipe σ2 vs = wipe σ vs ∧ tt σ2 H2 fun b H3 =>
      if b = true then tk σ2 H3 fun y H4 => tv σ2 H4 fun z H5 => ∃ kvs k, y = kV k ∧ H5 D = some (.dK kvs) ∧ kvs.length < sizeLine ∧ Pv (i + 1) (upd H5 D (.dK (putK kvs k z))) else Pv (i + 1) H3) (hd : ∀ H, Pv xs.length H → Qd H) :
    ∃ W : Nat → Nat → Hp → Prop, (∃ m, W 0 m (upd H1 D (.dK []))) ∧ ∀ i m H, W i m H →
      ((Itl K a).stop i H ∧ Qd H) ∨ ((Itl K a).go i H ∧ ∃ Nx : Hp → Prop, (∀ H', Nx H' → ∃ m', m' < m ∧ W (i + 1) m' H') ∧ ∀ x H', (Itl K a).yld i H x H' → g x (wipe σ vs) H' fun σ2 H2 => wipe σ2 vs = wipe σ vs ∧ tt σ2 H2 fun b H3 =>
        if b = true then tk σ2 H3 fun y H4 => tv σ2 H4 fun z H5 => ∃ kvs k, y = kV k ∧ H5 D = some (.dK kvs) ∧ kvs.length < sizeLine ∧ Nx (upd H5 D (.dK (putK kvs k z))) else Nx H3) := by
  refine ⟨fun i m H => m = xs.length - i ∧ i ≤ xs.length ∧ Pv i H, ⟨xs.length, by simp, Nat.zero_le _, h0⟩, ?_⟩
  rintro i m H ⟨rfl, hi, p⟩
  have q := hl i H hi p
  by_cases hlt : i < xs.length
  · refine .inr ⟨⟨xs, xs[i], q, by simp [hlt]⟩, Pv (i + 1), fun H' p' => ⟨xs.length - (i + 1), by omega, rfl, hlt, p'⟩, fun x H' y => ?_⟩
    obtain ⟨e, y⟩ := y
    subst e
    exact hs i x _ (y xs q) p
  · have e : i = xs.length := by omega
    subst e
    exact .inl ⟨⟨xs, q, Nat.le_refl _⟩, hd H p⟩
/-- ** of a base below 2^n, the exponent small -/
def CPowW (i j : Int) : Prop := 0 ≤ j ∧ (Builtin.Int.intBits i : Int) * j ≤ 2 ^ 27
theorem op_powW : OpR X (binaryOp .Pow) (rI CPowW fun i j => .int (i ^ j.toNat)) := opI fun _ _ _ _ _ _ _ hc q => pow_int hc.1 hc.2 q
/-- {t: v}, t a tuple -/
def tDict1T (tk tv : TE) : TE := fun σ H Q => ∀ p, H p = none → tk σ (upd H p (.dT [])) fun x H1 => tv σ H1 fun v H2 => ∃ (b : Addr) (k : List L2.Key), x = .ref b ∧ H2 b = some (.tup (k.map kV)) ∧ H2 p = some (.dT []) ∧ Q (.ref p) (upd H2 p (.dT [(k, v)]))
theorem pe_dict1T {ek ev : Expr} {tk tv : TE} {pos : Pos} (hu : X.A.units + 1 < cLine) (hk : PE X ek tk) (hv : PE X ev tv) : PE X (.Dict [some ek] [ev] pos) (tDict1T tk tv) := by
  refine ⟨fun pins s σ H Q I q => ?_⟩
  have hn := I.hok.fresh (Nat.le_refl s.heap.objs.size)
  have I1 := I.laid (a := s.heap.objs.size) (o := .dT []) (h' := s.heap.push { cls := .type "dict", data := .dict #[] }) (t' := s.toks) (fun _ _ q => Heap.get?_push_of_some _ q) (Nat.le_refl _) (dt_empty s.heap I.big)
  have hz : (evalEachOpt [some ek] X.env).zip ((evalEach [ev] X.env).map fun v => do let x ← v; standAt pos; pure x) = (pairTrees [some ek] [ev] X.env pos).map fun p => (some p.1, p.2) := zip_pairTrees _ _ _ _ rfl rfl
  rw [arm_eval_Dict, hz, dictDisplay_pairs (pairTrees [some ek] [ev] X.env pos) (fun e => nomatch e) (by show 1 < 17; decide)]
  refine wpAny_bind (wpAny_standAt (wpAny_bind (wpAny_subDictH (knd := tupleKind (mixKind X.prog X.w)) (by show X.A.units < cLine; omega) (by show 1 ≤ 15; decide) ?_)))
  refine pairTrees_cons_walk (thn (hk.run pins _ σ _ _ I1 (q _ hn)) fun u s1 ⟨x, H1, I2, rx, q1⟩ => thn (hv.run pins s1 σ H1 _ I2 q1) fun w2 s2 ⟨y, H2, I3, ry, b, k, ex, hb, hp, q2⟩ => pairTrees_nil_walk ?_)
  subst ex
  cases rx
  obtain ⟨z, hd, xs, rel, dd⟩ := dt_of I3.hok hp
  cases rel
  refine ⟨[(k, b, w2)], ⟨rfl, rfl, key_of I3.hok hb, trivial⟩, dd, fun h' tk' dd' hs => wpAny_pure ?_⟩
  obtain ⟨o, es, ep, ho, h2, h3, h4, _, h5⟩ := dd'
  have J := (I3.tok tk').write (e := s.heap.objs.size) (t' := tk') (o := .dT [(k, y)]) (h' := h') (by rw [hp]; exact True.intro) (.inl rfl) (fun c u hc hu => (hs.2 c hc).trans hu) ⟨o, ho⟩
    ⟨(by show 1 ≤ sizeLine; decide), hd, [(k, b, w2)], .cons ⟨rfl, by
      show upd H2 s.heap.objs.size (HO.dT [(k, y)]) b = some (.tup (k.map kV))
      rw [upd_ne (ne_of hb hp (fun z => nomatch z))]
      exact hb, ry⟩ .nil, o, es, ep, ho, h2, h3, h4, h5⟩
  exact ⟨.ref s.heap.objs.size, _, J, rfl, q2⟩
end
end Sb

namespace Sb
open PySem PySem.Spec PyProof.Rows L2 Evl
/-! ### the text -/
def topS (i : Nat) : Stmt := PySem.Challenge.pw_startbits_k84_whole_into_step.main.body.getD i (.Pass ⟨0, 0, 0, 0⟩)
/-! ### built-in names, constants of the modules -/
structure Bi (mg : PySem.Str → Option Value) : Prop where
  isinstance : mg "isinstance" = none
  int : mg "int" = none
  bool : mg "bool" = none
  tuple : mg "tuple" = none
  list : mg "list" = none
  str : mg "str" = none
  len : mg "len" = none
  sum : mg "sum" = none
  range : mg "range" = none
  sorted : mg "sorted" = none
  enumerate : mg "enumerate" = none
  max : mg "max" = none
  min : mg "min" = none
  abs : mg "abs" = none
structure Tc (K : PySem.W.Frag) (mg : PySem.Str → Option Value) (aP aI : Addr) (t1 t2 t3 : Tok) : Prop where
  m_PARITIES : mg "PARITIES" = some (.ref aP)
  m_IDLE : mg "IDLE" = some (.ref aI)
  m_MOST_LEVELS : mg "MOST_LEVELS" = some (.int 800 t1)
  m_WAITING : mg "WAITING" = some (.int (-1) t2)
  m_MOST_ALLOWED : mg "MOST_ALLOWED" = some (.int 20 t3)
  qP : ∀ H : Hp, SqT K H aP [.str "none", .str "even", .str "odd"]
  qI : ∀ H : Hp, SqT K H aI [.int 0, .int 0, .int 0, .bl true]
section
variable {K : PySem.W.Frag} {mg : PySem.Str → Option Value} {aP aI : Addr} {t1 t2 t3 : Tok}
theorem Tc.r_PARITIES (_ : Tc K mg aP aI t1 t2 t3) : RelV (.ref aP) (.ref aP) := rfl
theorem Tc.r_IDLE (_ : Tc K mg aP aI t1 t2 t3) : RelV (.ref aI) (.ref aI) := rfl
theorem Tc.r_MOST_LEVELS (_ : Tc K mg aP aI t1 t2 t3) : RelV (.int 800) (.int 800 t1) := ⟨_, rfl⟩
theorem Tc.r_WAITING (_ : Tc K mg aP aI t1 t2 t3) : RelV (.int (-1)) (.int (-1) t2) := ⟨_, rfl⟩
theorem Tc.r_MOST_ALLOWED (_ : Tc K mg aP aI t1 t2 t3) : RelV (.int 20) (.int 20 t3) := ⟨_, rfl⟩
end
/-! ### a def that keeps a promise, by its name -/
structure Cal (P : Program) (w : World) (K : PySem.W.Frag) (mg : PySem.Str → Option Value) (base : Heap) (k : Nat) (x : PySem.Str) (ps : List PySem.Str) (dvs : List V) (sp : Sp) : Prop where
  ex : ∃ (f : Addr) (fd : FuncData) (ds : List Value), FnOk P w K mg base CX0 k f fd ps sp ∧ mg x = some (.ref f) ∧ PySem.W.keepIn K (.ref f) = true ∧ Binds K fd ps ds ∧ Vals dvs ds
theorem Cal.mono {P : Program} {w : World} {K : PySem.W.Frag} {mg : PySem.Str → Option Value} {base : Heap} {j k : Nat} {x : PySem.Str} {ps : List PySem.Str} {dvs : List V} {sp : Sp} (C : Cal P w K mg base j x ps dvs sp) (h : j ≤ k) : Cal P w K mg base k x ps dvs sp := by
  obtain ⟨f, fd, ds, F, r⟩ := C.ex
  exact ⟨f, fd, ds, F.mono h, r⟩
theorem pcl {X : Cx} {k : Nat} {x : PySem.Str} {ps : List PySem.Str} {dvs : List V} {sp : Sp} {p pos : Pos} {e : Expr} {es : List Expr} {t : TA} (C : Cal X.prog X.w X.K X.mg X.base k x ps dvs sp) (hr : Room k X.A)
    (ha : PA X (e :: es) t) (hg : Gl X x := by rfl) (hdb : (x == ("__debug__" : PySem.Str)) = false := by decide) (he : starEach (e :: es) X.env = (false, eval e X.env) :: starEach es X.env := by rfl) (hpl : (backTo pos (starEach es X.env)).any (·.1) = false := by rfl) :
    PE X (.Call (.Name x p) (e :: es) [] pos) (tCall sp dvs E0 t) := by
  obtain ⟨f, fd, ds, F, hm, hk, hb, hd⟩ := C.ex
  exact pe_call F hr hg hm hk hb hd pass0 ha hdb he hpl
/-! ### what stands on the heap -/
def Par.str : Par → PySem.Str
  | .non => "none"
  | .even => "even"
  | .odd => "odd"
def ShT (H : Hp) (t : Addr) (h : Shp) : Prop := H t = some (.tup [.int (h.b : Int), .str h.p.str, .int (h.s : Int)])
theorem ShT.ex {H H' : Hp} {t : Addr} {h : Shp} (e : Ex H H') (S : ShT H t h) : ShT H' t h := e _ _ S
theorem ShT.q {K : PySem.W.Frag} {H : Hp} {t : Addr} {h : Shp} (S : ShT H t h) : SqT K H t [.int (h.b : Int), .str h.p.str, .int (h.s : Int)] := SqT.of S
theorem p_non (p : Par) : decide (V.str p.str = V.str "none") = decide (p = .non) := by cases p <;> decide
theorem p_odd (p : Par) : decide (V.str p.str = V.str "odd") = decide (p = .odd) := by cases p <;> decide
def wdV : Option Wd → V
  | none => .non
  | some .good => .str "good"
  | some .parity => .str "parity"
  | some .brk => .str "break"
  | some .frame => .str "frame"
def sttV (t : Stt) : List V := [.int t.pl, .int t.on, .int t.nu, .bl t.em]
abbrev iv (ns : List Int) : List V := ns.map V.int
def rdV (x : Int × Wd × Int) : List V := [.int x.1, wdV (some x.2.1), .int x.2.2]
/-- the tuples of readings -/
def RdT (H : Hp) : List Addr → List (Int × Wd × Int) → Prop
  | [], [] => True
  | r :: rs, x :: xs => H r = some (.tup (rdV x)) ∧ RdT H rs xs
  | _, _ => False
def NumOk (h : Shp) (ns : List Int) : Prop := ∀ n ∈ ns, 0 ≤ n ∧ n < 2 ^ h.b
def TankAt (H : Hp) (k : Addr) (c : Nat) : Prop := ∃ a b d : Int, H k = some (.lst [.int a, .int b, .int d]) ∧ 0 ≤ a ∧ 0 ≤ b ∧ b < 2 ^ 61 ∧ 0 ≤ d ∧ d ≤ c
/-- all but the tank stays -/
def Exb (k : Addr) (H H' : Hp) : Prop := ∀ b o, b ≠ k → H b = some o → H' b = some o
/-! ### the promises -/
section
variable (K : PySem.W.Frag)
def sp_is_integer : Sp := fun vs H Q _ => ∃ i : Int, vs = [.int i] ∧ ∀ H', Ex H H' → Q (.bl true) H'
def sp_frame_size : Sp := fun vs H Q _ => ∃ t h, vs = [.ref t] ∧ ShT H t h ∧ ∀ H', Ex H H' → Q (.int (h.size : Int)) H'
def sp_first_stop : Sp := fun vs H Q _ => ∃ t h, vs = [.ref t] ∧ ShT H t h ∧ ∀ H', Ex H H' → Q (.int (h.fs : Int)) H'
def sp_parity_level : Sp := fun vs H Q _ => ∃ t h n, vs = [.ref t, .int n] ∧ ShT H t h ∧ h.Ok ∧ h.p ≠ .non ∧ 0 ≤ n ∧ ∀ H', Ex H H' → Q (.int (parL h n)) H'
def sp_fits_shape : Sp := fun vs H Q _ => ∃ t h n, vs = [.ref t, .int n] ∧ ShT H t h ∧ h.Ok ∧ 0 ≤ n ∧ n < 2 ^ h.b ∧ ∀ H', Ex H H' → Q (.bl true) H'
def sp_shape_fault : Sp := fun vs H Q _ => ∃ t h, vs = [.ref t] ∧ ShT H t h ∧ h.Ok ∧ ∀ p H', Ex H H' → H' p = some (.tup []) → Q (.ref p) H'
def sp_require_shape : Sp := fun vs H Q _ => ∃ t h, vs = [.ref t] ∧ ShT H t h ∧ h.Ok ∧ ∀ H', Ex H H' → Q .non H'
def sp_require_text : Sp := fun vs H Q _ => ∃ t h l ns lo hi, vs = [.ref t, .ref l, .int lo, .int hi] ∧ ShT H t h ∧ h.Ok ∧ H l = some (.lst (iv ns)) ∧ NumOk h ns ∧ lo ≤ ns.length ∧ ns.length ≤ hi ∧ ns.length ≤ 1000 ∧ ∀ H', Ex H H' → Q .non H'
def sp_require_different : Sp := fun vs H Q _ => ∃ t h l ns hi, vs = [.ref t, .ref l, .int hi] ∧ ShT H t h ∧ h.Ok ∧ H l = some (.lst (iv ns)) ∧ NumOk h ns ∧ ns.Nodup ∧ 1 ≤ ns.length ∧ ns.length ≤ hi ∧ ns.length ≤ 1000 ∧ ∀ H', Ex H H' → Q .non H'
def sp_require_levels : Sp := fun vs H Q _ => ∃ l ls, vs = [.ref l] ∧ H l = some (.lst (iv ls)) ∧ (∀ x ∈ ls, x = 0 ∨ x = 1) ∧ ls.length ≤ 800 ∧ ∀ H', Ex H H' → Q .non H'
def sp_size_of : Sp := fun vs H Q _ => ∃ t h, vs = [.ref t] ∧ ShT H t h ∧ h.Ok ∧ ∀ H', Ex H H' → Q (.int (h.size : Int)) H'
def sp_frame_levels : Sp := fun vs H Q _ => ∃ t h n, vs = [.ref t, .int n] ∧ ShT H t h ∧ h.Ok ∧ 0 ≤ n ∧ ∀ p H', H p = none → Ex H H' → H' p = some (.lst (iv (frm h n))) → Q (.ref p) H'
def sp_levels_of : Sp := fun vs H Q _ => ∃ t h l ns, vs = [.ref t, .ref l] ∧ ShT H t h ∧ h.Ok ∧ H l = some (.lst (iv ns)) ∧ NumOk h ns ∧ ns.length ≤ 60 ∧ ∀ p H', H p = none → Ex H H' → H' p = some (.lst (iv (txt h ns))) → Q (.ref p) H'
def sp_after_level : Sp := fun vs H Q _ => ∃ t h q st l, vs = [.ref t, .ref q, .int l] ∧ ShT H t h ∧ h.Ok ∧ SqT K H q (sttV st) ∧ -1 ≤ st.pl ∧ (l = 0 ∨ l = 1) ∧
  ∀ r q' H', Ex H H' → SqT K H' r [.ref q', wdV (aft h st l).2] → SqT K H' q' (sttV (aft h st l).1) → Q (.ref r) H'
def sp_readings_of : Sp := fun vs H Q _ => ∃ t h l ls, vs = [.ref t, .ref l, .int 0] ∧ ShT H t h ∧ h.Ok ∧ H l = some (.lst (iv ls)) ∧ (∀ x ∈ ls, x = 0 ∨ x = 1) ∧ ls.length ≤ 800 ∧
  ∀ p rs H', H p = none → Ex H H' → H' p = some (.lst (rs.map V.ref)) → RdT H' rs (runL h rns0 (ls ++ List.replicate h.size 1)).found → Q (.ref p) H'
def sp_state_after : Sp := fun vs H Q _ => ∃ t h q st n, vs = [.ref t, .ref q, .int n] ∧ ShT H t h ∧ h.Ok ∧ SqT K H q (sttV st) ∧ 0 ≤ st.pl ∧ st.pl < h.size ∧ 0 ≤ n ∧
  ∀ r q' wl H', Ex H H' → SqT K H' r [.ref q', .ref wl] → SqT K H' q' (sttV (sta h st (frm h n))) → Q (.ref r) H'
def sp_next_place : Sp := fun vs H Q _ => ∃ t h p n, vs = [.ref t, .int p, .int n] ∧ ShT H t h ∧ h.Ok ∧ 0 ≤ p ∧ p < h.size ∧ 0 ≤ n ∧ ∀ H', Ex H H' → Q (.int (dlt h n p)) H'
def sp_require_place : Sp := fun vs H Q _ => ∃ t h p, vs = [.ref t, .int p] ∧ ShT H t h ∧ h.Ok ∧ 0 ≤ p ∧ p < h.size ∧ ∀ H', Ex H H' → Q .non H'
def sp_places_along : Sp := fun vs H Q _ => ∃ t h p l ns, vs = [.ref t, .int p, .ref l] ∧ ShT H t h ∧ h.Ok ∧ 0 ≤ p ∧ p < h.size ∧ H l = some (.lst (iv ns)) ∧ NumOk h ns ∧ ns.length ≤ 60 ∧
  ∀ q xs H', H q = none → Ex H H' → H' q = some (.lst (iv (xs ++ [plAfter h p ns]))) → Q (.ref q) H'
def sp_place_behind : Sp := fun vs H Q _ => ∃ t h p l ns, vs = [.ref t, .int p, .ref l] ∧ ShT H t h ∧ h.Ok ∧ 0 ≤ p ∧ p < h.size ∧ H l = some (.lst (iv ns)) ∧ NumOk h ns ∧ ns.length ≤ 60 ∧ ∀ H', Ex H H' → Q (.int (plAfter h p ns)) H'
def sp_step_text : Sp := fun vs H Q _ => ∃ t h l ns, vs = [.ref t, .ref l] ∧ ShT H t h ∧ h.Ok ∧ h.size ≤ 11 ∧ H l = some (.lst (iv ns)) ∧ NumOk h ns ∧ ns.Nodup ∧ 1 ≤ ns.length ∧ ns.length ≤ 20 ∧
  (∀ q w H', H q = none → Ex H H' → H' q = some (.lst (iv w)) → w ≠ [] → (∀ a ∈ w, a ∈ ns) → w.length ≤ 55 → (∀ p : Int, 0 ≤ p → p < h.size → plAfter h p w = 0) → Q (.ref q) H') ∧
  ∀ H', Ex H H' → (∀ w : List Int, (∀ a ∈ w, a ∈ ns) → ∃ p : Int, 1 ≤ p ∧ p < h.size ∧ plAfter h p w ≠ 0) → Q .non H'
def sp_tank : Sp := fun vs H Q _ => ∃ (s : Addr) (ns : List Int) (i : Int), vs = [.ref s, .int i] ∧ SqL K H s (iv ns) ∧ ns.length ≤ 63 ∧ 0 ≤ i ∧ i < 3 ∧ ∀ q H', H q = none → Ex H H' → TankAt H' q 0 → Q (.ref q) H'
def sp_tap : Sp := fun vs H Q _ => ∃ k c m, vs = [.ref k, .int m] ∧ TankAt H k c ∧ c ≤ 100000 ∧ 1 ≤ m ∧ m ≤ 1000000 ∧ ∀ (r : Int) H', 0 ≤ r → r < m → Exb k H H' → TankAt H' k (c + 1) → Q (.int r) H'
def sp_shape : Sp := fun vs H Q _ => ∃ k c m, vs = [.ref k, .int m] ∧ TankAt H k c ∧ c ≤ 90000 ∧ 1 ≤ m ∧ m ≤ 9 ∧ ∀ h t H', h.Ok → (h.b : Int) ≤ m → Exb k H H' → ShT H' t h → TankAt H' k (c + 3) → Q (.ref t) H'
def sp_numbers : Sp := fun vs H Q _ => ∃ t h, vs = [.ref t] ∧ ShT H t h ∧ h.Ok ∧ ∀ H', Ex H H' → Q (.int (2 ^ h.b)) H'
def sp_frame : Sp := fun vs H Q _ => ∃ t h n, vs = [.ref t, .int n] ∧ ShT H t h ∧ h.Ok ∧ ∀ p zs H', H p = none → Ex H H' → H' p = some (.lst (iv zs)) → zs.length ≤ 20 → Q (.ref p) H'
def sp_place : Sp := fun vs H Q _ => ∃ t h p l zs, vs = [.ref t, .int p, .ref l] ∧ ShT H t h ∧ h.Ok ∧ H l = some (.lst (iv zs)) ∧ ∀ (z : Int) H', Ex H H' → Q (.int z) H'
def sp_maps : Sp := fun vs H Q _ => ∃ t h l ns, vs = [.ref t, .ref l] ∧ ShT H t h ∧ h.Ok ∧ H l = some (.lst (iv ns)) ∧ ns.length ≤ 600 ∧
  ∀ d kvs H', H d = none → Ex H H' → H' d = some (.dK kvs) → (∀ n ∈ ns, ∃ q zs, valV kvs (.inl n) = some (.ref q) ∧ H' q = some (.lst (iv zs))) → Q (.ref d) H'
def sp_allowed : Sp := fun vs H Q _ => ∃ k c t h m, vs = [.ref k, .ref t, .int m] ∧ TankAt H k c ∧ c ≤ 90000 ∧ ShT H t h ∧ h.Ok ∧ 1 ≤ m ∧ m ≤ 6 ∧
  ∀ q ns H', H q = none → Exb k H H' → H' q = some (.lst (iv ns)) → NumOk h ns → ns.Nodup → 1 ≤ ns.length → ns.length ≤ 6 → TankAt H' k (c + 13) → Q (.ref q) H'
def sp_step_right : Sp := fun vs H Q _ => ∃ k c t h l w, vs = [.ref k, .ref t, .ref l] ∧ TankAt H k c ∧ c ≤ 90000 ∧ ShT H t h ∧ h.Ok ∧ h.size ≤ 11 ∧ H l = some (.lst (iv w)) ∧ l ≠ k ∧ NumOk h w ∧ w.length ≤ 55 ∧ (∀ p : Int, 0 ≤ p → p < h.size → plAfter h p w = 0) ∧
  ∀ H', Exb k H H' → TankAt H' k (c + 50) → Q (.bl true) H'
def sp_right : Sp := fun vs H Q _ => ∃ k c t h l ns, vs = [.ref k, .ref t, .ref l] ∧ TankAt H k c ∧ c ≤ 80000 ∧ ShT H t h ∧ h.Ok ∧ h.size ≤ 11 ∧ H l = some (.lst (iv ns)) ∧ l ≠ k ∧ NumOk h ns ∧ ns.Nodup ∧ 1 ≤ ns.length ∧ ns.length ≤ 6 ∧
  ∀ H', Exb k H H' → TankAt H' k (c + 50) → Q (.bl true) H'
def sp_law : Sp := fun vs H Q _ => ∃ (a : Addr) (ns : List Int), vs = [.ref a] ∧ SqL K H a (iv ns) ∧ ns.length ≤ 63 ∧ (H a ≠ none → ∃ o u, H a = some (.frz o u)) ∧ ∀ H', Q (.bl true) H'
end
abbrev s_is_integer : Stmt := topS 11
abbrev N_is_integer : List PySem.Str := ["value"]
theorem sc_is_integer : FnScope N_is_integer ["value"] (defScope s_is_integer) := ⟨rfl, rfl, rfl, by decide +kernel, rfl, by decide +kernel, by decide +kernel⟩
abbrev s_frame_size : Stmt := topS 12
abbrev N_frame_size : List PySem.Str := ["shape"]
theorem sc_frame_size : FnScope N_frame_size ["shape"] (defScope s_frame_size) := ⟨rfl, rfl, rfl, by decide +kernel, rfl, by decide +kernel, by decide +kernel⟩
abbrev s_first_stop : Stmt := topS 13
abbrev N_first_stop : List PySem.Str := ["shape"]
theorem sc_first_stop : FnScope N_first_stop ["shape"] (defScope s_first_stop) := ⟨rfl, rfl, rfl, by decide +kernel, rfl, by decide +kernel, by decide +kernel⟩
abbrev s_parity_level : Stmt := topS 14
abbrev N_parity_level : List PySem.Str := ["shape", "number", "ones", "place"]
theorem sc_parity_level : FnScope N_parity_level ["shape", "number"] (defScope s_parity_level) := ⟨rfl, rfl, rfl, by decide +kernel, rfl, by decide +kernel, by decide +kernel⟩
abbrev s_fits_shape : Stmt := topS 15
abbrev N_fits_shape : List PySem.Str := ["shape", "value"]
theorem sc_fits_shape : FnScope N_fits_shape ["shape", "value"] (defScope s_fits_shape) := ⟨rfl, rfl, rfl, by decide +kernel, rfl, by decide +kernel, by decide +kernel⟩
abbrev s_shape_fault : Stmt := topS 16
abbrev N_shape_fault : List PySem.Str := ["value"]
theorem sc_shape_fault : FnScope N_shape_fault ["value"] (defScope s_shape_fault) := ⟨rfl, rfl, rfl, by decide +kernel, rfl, by decide +kernel, by decide +kernel⟩
abbrev s_require_shape : Stmt := topS 17
abbrev N_require_shape : List PySem.Str := ["shape", "fault"]
theorem sc_require_shape : FnScope N_require_shape ["shape"] (defScope s_require_shape) := ⟨rfl, rfl, rfl, by decide +kernel, rfl, by decide +kernel, by decide +kernel⟩
abbrev s_require_text : Stmt := topS 18
abbrev N_require_text : List PySem.Str := ["shape", "numbers", "least", "most", "index", "number"]
theorem sc_require_text : FnScope N_require_text ["shape", "numbers", "least", "most"] (defScope s_require_text) := ⟨rfl, rfl, rfl, by decide +kernel, rfl, by decide +kernel, by decide +kernel⟩
abbrev s_require_different : Stmt := topS 19
abbrev N_require_different : List PySem.Str := ["shape", "numbers", "most", "index", "number"]
theorem sc_require_different : FnScope N_require_different ["shape", "numbers", "most"] (defScope s_require_different) := ⟨rfl, rfl, rfl, by decide +kernel, rfl, by decide +kernel, by decide +kernel⟩
abbrev s_require_levels : Stmt := topS 20
abbrev N_require_levels : List PySem.Str := ["levels", "index", "level"]
theorem sc_require_levels : FnScope N_require_levels ["levels"] (defScope s_require_levels) := ⟨rfl, rfl, rfl, by decide +kernel, rfl, by decide +kernel, by decide +kernel⟩
abbrev s_size_of : Stmt := topS 22
abbrev N_size_of : List PySem.Str := ["shape"]
theorem sc_size_of : FnScope N_size_of ["shape"] (defScope s_size_of) := ⟨rfl, rfl, rfl, by decide +kernel, rfl, by decide +kernel, by decide +kernel⟩
abbrev s_frame_levels : Stmt := topS 23
abbrev N_frame_levels : List PySem.Str := ["shape", "number", "levels", "place"]
theorem sc_frame_levels : FnScope N_frame_levels ["shape", "number"] (defScope s_frame_levels) := ⟨rfl, rfl, rfl, by decide +kernel, rfl, by decide +kernel, by decide +kernel⟩
abbrev s_levels_of : Stmt := topS 24
abbrev N_levels_of : List PySem.Str := ["shape", "numbers", "number", "level"]
theorem sc_levels_of : FnScope N_levels_of ["shape", "numbers"] (defScope s_levels_of) := ⟨rfl, rfl, rfl, by decide +kernel, rfl, by decide +kernel, by decide +kernel⟩
abbrev s_after_level : Stmt := topS 28
abbrev N_after_level : List PySem.Str := ["shape", "state", "level", "place", "ones", "number", "is_empty"]
theorem sc_after_level : FnScope N_after_level ["shape", "state", "level"] (defScope s_after_level) := ⟨rfl, rfl, rfl, by decide +kernel, rfl, by decide +kernel, by decide +kernel⟩
abbrev s_readings_of : Stmt := topS 29
abbrev N_readings_of : List PySem.Str := ["shape", "levels", "begin", "found", "state", "start", "index", "former", "word"]
theorem sc_readings_of : FnScope N_readings_of ["shape", "levels", "begin"] (defScope s_readings_of) := ⟨rfl, rfl, rfl, by decide +kernel, rfl, by decide +kernel, by decide +kernel⟩
abbrev s_parsed : Stmt := topS 30
abbrev N_parsed : List PySem.Str := ["shape", "levels", "begin"]
theorem sc_parsed : FnScope N_parsed ["shape", "levels", "begin"] (defScope s_parsed) := ⟨rfl, rfl, rfl, by decide +kernel, rfl, by decide +kernel, by decide +kernel⟩
abbrev s_state_after : Stmt := topS 31
abbrev N_state_after : List PySem.Str := ["shape", "state", "number", "words", "level", "word"]
theorem sc_state_after : FnScope N_state_after ["shape", "state", "number"] (defScope s_state_after) := ⟨rfl, rfl, rfl, by decide +kernel, rfl, by decide +kernel, by decide +kernel⟩
abbrev s_next_place : Stmt := topS 32
abbrev N_next_place : List PySem.Str := ["shape", "place", "number"]
theorem sc_next_place : FnScope N_next_place ["shape", "place", "number"] (defScope s_next_place) := ⟨rfl, rfl, rfl, by decide +kernel, rfl, by decide +kernel, by decide +kernel⟩
abbrev s_require_place : Stmt := topS 33
abbrev N_require_place : List PySem.Str := ["shape", "place"]
theorem sc_require_place : FnScope N_require_place ["shape", "place"] (defScope s_require_place) := ⟨rfl, rfl, rfl, by decide +kernel, rfl, by decide +kernel, by decide +kernel⟩
abbrev s_places_along : Stmt := topS 34
abbrev N_places_along : List PySem.Str := ["shape", "place", "numbers", "found", "number"]
theorem sc_places_along : FnScope N_places_along ["shape", "place", "numbers"] (defScope s_places_along) := ⟨rfl, rfl, rfl, by decide +kernel, rfl, by decide +kernel, by decide +kernel⟩
abbrev s_place_behind : Stmt := topS 35
abbrev N_place_behind : List PySem.Str := ["shape", "place", "numbers"]
theorem sc_place_behind : FnScope N_place_behind ["shape", "place", "numbers"] (defScope s_place_behind) := ⟨rfl, rfl, rfl, by decide +kernel, rfl, by decide +kernel, by decide +kernel⟩
abbrev s_step_text : Stmt := topS 38
abbrev N_step_text : List PySem.Str := ["shape", "numbers", "allowed", "number", "maps", "first", "seen", "waiting", "places", "text", "later", "place"]
theorem sc_step_text : FnScope N_step_text ["shape", "numbers"] (defScope s_step_text) := ⟨rfl, rfl, rfl, by decide +kernel, rfl, by decide +kernel, by decide +kernel⟩
abbrev s__law_tank : Stmt := topS 40
abbrev N__law_tank : List PySem.Str := ["_law_script", "_law_at", "_law_cell"]
theorem sc__law_tank : FnScope N__law_tank ["_law_script", "_law_at"] (defScope s__law_tank) := ⟨rfl, rfl, rfl, by decide +kernel, rfl, by decide +kernel, by decide +kernel⟩
abbrev s__law_tap : Stmt := topS 41
abbrev N__law_tap : List PySem.Str := ["_law_tank_here", "_law_many", "_law_drawn", "_law_mixed"]
theorem sc__law_tap : FnScope N__law_tap ["_law_tank_here", "_law_many"] (defScope s__law_tap) := ⟨rfl, rfl, rfl, by decide +kernel, rfl, by decide +kernel, by decide +kernel⟩
abbrev s__law_shape : Stmt := topS 42
abbrev N__law_shape : List PySem.Str := ["_law_tank_here", "_law_most", "_law_bits"]
theorem sc__law_shape : FnScope N__law_shape ["_law_tank_here", "_law_most"] (defScope s__law_shape) := ⟨rfl, rfl, rfl, by decide +kernel, rfl, by decide +kernel, by decide +kernel⟩
abbrev s__law_numbers : Stmt := topS 43
abbrev N__law_numbers : List PySem.Str := ["_law_shape_here", "_law_found", "_law_turn"]
theorem sc__law_numbers : FnScope N__law_numbers ["_law_shape_here"] (defScope s__law_numbers) := ⟨rfl, rfl, rfl, by decide +kernel, rfl, by decide +kernel, by decide +kernel⟩
abbrev s__law_frame : Stmt := topS 44
abbrev N__law_frame : List PySem.Str := ["_law_shape_here", "_law_number", "_law_levels", "_law_left", "_law_turn"]
theorem sc__law_frame : FnScope N__law_frame ["_law_shape_here", "_law_number"] (defScope s__law_frame) := ⟨rfl, rfl, rfl, by decide +kernel, rfl, by decide +kernel, by decide +kernel⟩
abbrev s__law_place : Stmt := topS 45
abbrev N__law_place : List PySem.Str := ["_law_shape_here", "_law_place_here", "_law_levels", "_law_stop", "_law_level"]
theorem sc__law_place : FnScope N__law_place ["_law_shape_here", "_law_place_here", "_law_levels"] (defScope s__law_place) := ⟨rfl, rfl, rfl, by decide +kernel, rfl, by decide +kernel, by decide +kernel⟩
abbrev s__law_maps : Stmt := topS 46
abbrev N__law_maps : List PySem.Str := ["_law_shape_here", "_law_numbers_here", "_law_found", "_law_size", "_law_number", "_law_place_here"]
theorem sc__law_maps : FnScope N__law_maps ["_law_shape_here", "_law_numbers_here"] (defScope s__law_maps) := ⟨rfl, rfl, rfl, by decide +kernel, rfl, by decide +kernel, by decide +kernel⟩
abbrev s__law_allowed : Stmt := topS 47
abbrev N__law_allowed : List PySem.Str := ["_law_tank_here", "_law_shape_here", "_law_most", "_law_every", "_law_maps_here", "_law_found", "_law_keep", "_law_turn", "_law_some", "_law_number"]
theorem sc__law_allowed : FnScope N__law_allowed ["_law_tank_here", "_law_shape_here", "_law_most"] (defScope s__law_allowed) := ⟨rfl, rfl, rfl, by decide +kernel, rfl, by decide +kernel, by decide +kernel⟩
abbrev s__law_step_right : Stmt := topS 48
abbrev N__law_step_right : List PySem.Str := ["_law_tank_here", "_law_shape_here", "_law_text", "_law_ahead", "_law_numbers_here", "_law_base", "_law_size", "_law_told", "_law_due", "_law_early", "_law_turn", "_law_spot", "_law_number", "_law_one", "_law_place_here"]
theorem sc__law_step_right : FnScope N__law_step_right ["_law_tank_here", "_law_shape_here", "_law_text"] (defScope s__law_step_right) := ⟨rfl, rfl, rfl, by decide +kernel, rfl, by decide +kernel, by decide +kernel⟩
abbrev s__law_right : Stmt := topS 49
abbrev N__law_right : List PySem.Str := ["_law_tank_here", "_law_shape_here", "_law_numbers_here", "_law_text", "_law_turn", "_law_some", "_law_lap", "_law_place_here", "_law_number"]
theorem sc__law_right : FnScope N__law_right ["_law_tank_here", "_law_shape_here", "_law_numbers_here"] (defScope s__law_right) := ⟨rfl, rfl, rfl, by decide +kernel, rfl, by decide +kernel, by decide +kernel⟩
abbrev s_law : Stmt := topS 50
abbrev N_law : List PySem.Str := ["_law_script", "_law_at", "_law_tank_here", "_law_turn", "_law_shape_here"]
theorem sc_law : FnScope N_law ["_law_script"] (defScope s_law) := ⟨rfl, rfl, rfl, by decide +kernel, rfl, by decide +kernel, by decide +kernel⟩
end Sb

namespace Sb
open PySem PySem.Spec PyProof.Rows L2 Evl
section
variable {P : Program} {w : World} {K : PySem.W.Frag} {mg : PySem.Str → Option Value} {base : Heap} {k : Nat} {aP aI : Addr} {t1 t2 t3 : Tok}
/-! ### small readings -/
theorem qi {Q : VK} {i j : Int} {H : Hp} (e : i = j) (q : Q (.int j) H) : Q (.int i) H := by rw [e]; exact q
theorem qb {Q : VK} {i j : Bool} {H : Hp} (e : i = j) (q : Q (.bl j) H) : Q (.bl i) H := by rw [e]; exact q
theorem ifn {c : Bool} {A B : Prop} (e : c = false) (h : B) : if c = true then A else B := by rw [e]; exact iteF h
theorem ify {c : Bool} {A B : Prop} (e : c = true) (h : A) : if c = true then A else B := by rw [e]; exact iteT h
theorem ifs {c : Bool} {A B : Prop} (h1 : c = true → A) (h2 : c = false → B) : if c = true then A else B := by
  cases c with
  | true => exact iteT (h1 rfl)
  | false => exact iteF (h2 rfl)
def rShr : R2 := fun x y H Q => ∃ (i : Int) (n : Nat), x = .int i ∧ y = .int (n : Int) ∧ Q (.int (i / 2 ^ n)) H
theorem op_shrK {X : Cx} : OpR X (binaryOp .RShift) rShr := op_shrN
def rAnd1 : R2 := fun x y H Q => ∃ i : Int, x = .int i ∧ y = .int 1 ∧ Q (.int (i % 2)) H
theorem op_and1 {X : Cx} : OpR X (binaryOp .BitAnd) rAnd1 := by
  intro pins s σ H x y v u Q I rx ry h
  obtain ⟨i, rfl, rfl, q⟩ := h
  exact op_andM pins s σ H _ _ v u Q I rx ry ⟨i, 1, rfl, rfl, q⟩
theorem et_yes {σ : L2.St} {H : Hp} : EvT tYes σ H true := fun H1 _ _ q => q H1 (Ex.refl H1)
theorem rv_shr {H : Hp} {i : Int} {n : Nat} : RV rShr (.int i) (.int (n : Int)) H (.int (i / 2 ^ n)) := fun H1 _ _ q => ⟨i, n, rfl, rfl, q H1 (Ex.refl H1)⟩
theorem rv_and1 {H : Hp} {i : Int} : RV rAnd1 (.int i) (.int 1) H (.int (i % 2)) := fun H1 _ _ q => ⟨i, rfl, rfl, q H1 (Ex.refl H1)⟩
/-- number >> place & 1 for place in range(bits) -/
theorem el_bits {σ : L2.St} {H : Hp} {ta : TA} {b : Nat} {n : Int} {i j : Nat} {vs : List Nat} (hb : b ≤ 9) (h : EvA ta σ H [.int (b : Int)]) (hw : ∀ x, wipe ((wipe σ vs).set j (some x)) vs = wipe σ vs)
    (hi : ∀ x : V, ((wipe σ vs).set j (some x))[i]? = some (some (.int n))) (hj : ∀ x : V, ((wipe σ vs).set j (some x))[j]? = some (some x)) :
    EvL (tLc (iRng1 ta) (gName j) tYes (tOp rAnd1 (tOp rShr (tVar i) (tVar j)) (tC (.int 1))) vs) σ H (iv (bitsOf b n)) := by
  have e := el_lcR1 (t := tYes) (te := tOp rAnd1 (tOp rShr (tVar i) (tVar j)) (tC (.int 1))) (f := fun _ => true) (v := fun i => .int (n / 2 ^ i % 2)) h ⟨by omega, by omega⟩ hw (fun _ _ _ _ => et_yes)
    (fun m H1 _ _ _ => ev_op (ev_op (ev_var (hi _)) (ev_var (hj _)) rv_shr) ev_c rv_and1)
  have q : given (b : Int).toNat (fun _ => true) (fun i => V.int (n / 2 ^ i % 2)) = iv (bitsOf b n) := by
    unfold given iv bitsOf
    rw [List.filter_eq_self.mpr (fun _ _ => rfl), List.map_map, Int.toNat_natCast]
    rfl
  rw [q] at e
  exact e
section
variable {σ : L2.St} {H : Hp} {ta tb te : TE} {xs ys : List V} {ns : List Int} {n : Int} {v : V}
theorem ev_sumL (h : EvL ta σ H (iv ns)) : Ev (tCB (rSum K) (tCons ta tNil)) σ H (.int ns.sum) := fun H1 e Q q =>
  h H1 e _ fun p H2 _ e2 hx => ⟨p, ns, rfl, SqL.of hx, q H2 e2⟩
theorem el_cat (h1 : EvL ta σ H xs) (h2 : EvL tb σ H ys) (hl : xs.length + ys.length ≤ 100000) : EvL (tOp rCat ta tb) σ H (xs ++ ys) := fun H1 e Q q =>
  h1 H1 e _ fun p H2 hp e2 hx => h2 H2 (e.trans e2) _ fun p2 H3 hp2 e3 hy => ⟨p, p2, xs, ys, rfl, rfl, e3 p _ hx, hy, sz_of hl, fun r hr => q r _ (fresh_back (e2.trans e3) hr) ((e2.trans e3).trans (Ex.new hr)) upd_same⟩
/-- a list of the call's own, and a new one -/
theorem el_catV {a : Addr} (h1 : Ev ta σ H (.ref a)) (ha : H a = some (.lst xs)) (h2 : EvL tb σ H ys) (hl : xs.length + ys.length ≤ 100000) : EvL (tOp rCat ta tb) σ H (xs ++ ys) := fun H1 e Q q =>
  h1 H1 e _ fun H2 e2 => h2 H2 (e.trans e2) _ fun p2 H3 hp2 e3 hy => ⟨a, p2, xs, ys, rfl, rfl, ((e.trans e2).trans e3) a _ ha, hy, sz_of hl, fun r hr => q r _ (fresh_back (e2.trans e3) hr) ((e2.trans e3).trans (Ex.new hr)) upd_same⟩
theorem el_catL {b : Addr} (h1 : EvL ta σ H xs) (h2 : Ev tb σ H (.ref b)) (hb : H b = some (.lst ys)) (hl : xs.length + ys.length ≤ 100000) : EvL (tOp rCat ta tb) σ H (xs ++ ys) := fun H1 e Q q =>
  h1 H1 e _ fun p H2 hp e2 hx => h2 H2 (e.trans e2) _ fun H3 e3 => ⟨p, b, xs, ys, rfl, rfl, e3 p _ hx, ((e.trans e2).trans e3) b _ hb, sz_of hl, fun r hr => q r _ (fresh_back (e2.trans e3) hr) ((e2.trans e3).trans (Ex.new hr)) upd_same⟩
theorem el_rep (h1 : EvL ta σ H xs) (h2 : Ev tb σ H (.int n)) (h0 : 0 ≤ n) (hn : n ≤ 1000) (hl : xs.length ≤ 10) : EvL (tOp rRep ta tb) σ H (List.replicate n.toNat xs).flatten := fun H1 e Q q =>
  h1 H1 e _ fun p H2 hp e2 hx => h2 H2 (e.trans e2) _ fun H3 e3 => ⟨p, n, xs, rfl, rfl, e3 p _ hx, by omega, by omega, Nat.le_trans (Nat.mul_le_mul hl (show n.toNat ≤ 1000 by omega)) (by decide), fun r hr => q r _ (fresh_back (e2.trans e3) hr) ((e2.trans e3).trans (Ex.new hr)) upd_same⟩
end
end
end Sb

namespace Sb
open PySem PySem.Spec PyProof.Rows L2 Evl
section
variable {P : Program} {w : World} {K : PySem.W.Frag} {mg : PySem.Str → Option Value} {base : Heap} {k : Nat} {aP aI : Addr} {t1 t2 t3 : Tok}
theorem ok_is_integer {f : Addr} {fd : FuncData} (F : Fun K "is_integer" "is_integer" s_is_integer f fd) (B : Bi mg) : FnOk P w K mg base CX0 (k + 1) f fd ["value"] sp_is_integer := by
  refine F.ok sc_is_integer (fun vs H Q E h => ?_) (fun cdv A outer s H vs Q E hr h => ?_)
  · obtain ⟨i, rfl, _⟩ := h; rfl
  · obtain ⟨i, rfl, q⟩ := h
    -- 0:value
    refine ⟨_, pss_one (ps_ret (pe_and (pe_callB call_isi rfl B.isinstance (by decide +kernel) (pa_cons (pv 0) (pa_cons (pe_bltn (v := .ty "int") (by rfl) B.int PyProof.Rows.boot_int rfl) pa_nil))) (pe_one (pe_not (pe_callB call_isi rfl B.isinstance (by decide +kernel) (pa_cons (pv 0) (pa_cons (pe_bltn (v := .ty "bool") (by rfl) B.bool PyProof.Rows.boot_bool rfl) pa_nil))))))), ?_⟩
    refine ⟨_, rfl, _, _, _, _, _, rfl, ClsV.ty _, TyX.base (TyOf.int _), kit_ty (by decide +kernel), _, rfl, iteT ?_⟩
    refine ⟨_, rfl, _, _, _, _, _, rfl, ClsV.ty _, TyX.base (TyOf.int _), kit_ty (b := "bool") (r := false) (by decide +kernel), _, rfl, ?_⟩
    exact q _ (Ex.refl _)
theorem ok_frame_size {f : Addr} {fd : FuncData} (F : Fun K "frame_size" "frame_size" s_frame_size f fd) (B : Bi mg) : FnOk P w K mg base CX0 (k + 1) f fd ["shape"] sp_frame_size := by
  refine F.ok sc_frame_size (fun vs H Q E h => ?_) (fun cdv A outer s H vs Q E hr h => ?_)
  · obtain ⟨t, h, rfl, _⟩ := h; rfl
  · obtain ⟨t, h, rfl, S, q⟩ := h
    -- 0:shape
    refine ⟨_, pss_one (ps_ret (pe_op op_add (pe_op op_add (pe_op op_add pe_int (pe_ix ix_tup (pv 0) pe_int (fun _ _ => rfl))) (pe_callTy call_int1 rfl B.int PyProof.Rows.boot_int (pa_cons (pe_cmpR op_ne (pe_ix ix_tup (pv 0) pe_int (fun _ _ => rfl)) pe_str (nomark _)) pa_nil))) (pe_ix ix_tup (pv 0) pe_int (fun _ _ => rfl)))), ?_⟩
    refine ⟨_, rfl, t, _, 0, _, rfl, rfl, S.q, rfl, _, _, rfl, rfl, ?_⟩
    refine ⟨_, rfl, t, _, 1, _, rfl, rfl, S.q, rfl, rfl, .inr ⟨_, rfl, _, _, rfl, rfl, ?_⟩⟩
    refine ⟨_, rfl, t, _, 2, _, rfl, rfl, S.q, rfl, _, _, rfl, rfl, ?_⟩
    have e : (1 + (h.b : Int) + (if (!decide (V.str h.p.str = V.str "none")) = true then 1 else 0) + (h.s : Int)) = (h.size : Int) := by
      rw [p_non]
      unfold Shp.size Shp.pn
      by_cases hp : h.p = .non
      · rw [if_pos hp, decide_eq_true hp]
        show 1 + (h.b : Int) + 0 + h.s = _
        omega
      · rw [if_neg hp, decide_eq_false hp]
        show 1 + (h.b : Int) + 1 + h.s = _
        omega
    exact qi (Q := Q) e (q _ (Ex.refl _))
theorem ok_first_stop {f : Addr} {fd : FuncData} (F : Fun K "first_stop" "first_stop" s_first_stop f fd) (C_frame_size : Cal P w K mg base k "frame_size" ["shape"] [] sp_frame_size) : FnOk P w K mg base CX0 (k + 1) f fd ["shape"] sp_first_stop := by
  refine F.ok sc_first_stop (fun vs H Q E h => ?_) (fun cdv A outer s H vs Q E hr h => ?_)
  · obtain ⟨t, h, rfl, _⟩ := h; rfl
  · obtain ⟨t, h, rfl, S, q⟩ := h
    -- 0:shape
    refine ⟨_, pss_one (ps_ret (pe_op op_sub (pcl C_frame_size hr (pa_cons (pv 0) pa_nil)) (pe_ix ix_tup (pv 0) pe_int (fun _ _ => rfl)))), ?_⟩
    refine ⟨_, rfl, t, h, rfl, S, fun H1 e1 => ?_⟩
    refine ⟨_, rfl, t, _, 2, _, rfl, rfl, (S.ex e1).q, rfl, _, _, rfl, rfl, ?_⟩
    have e : ((h.size : Int) - (h.s : Int)) = (h.fs : Int) := by
      have := size_fs h
      omega
    exact qi (Q := Q) e (q _ e1)
theorem ok_parity_level {f : Addr} {fd : FuncData} (F : Fun K "parity_level" "parity_level" s_parity_level f fd) (B : Bi mg) : FnOk P w K mg base CX0 (k + 1) f fd ["shape", "number"] sp_parity_level := by
  refine F.ok sc_parity_level (fun vs H Q E h => ?_) (fun cdv A outer s H vs Q E hr h => ?_)
  · obtain ⟨t, h, n, rfl, _⟩ := h; rfl
  · obtain ⟨t, h, n, rfl, S, ok, hp, hn, q⟩ := h
    -- 0:shape 1:number 2:ones 3:place
    refine ⟨_, pss_cons (ps_if (pt_cmpR op_eq (pe_ix ix_tup (pv 0) pe_int (fun _ _ => rfl)) pe_str (nomark _)) (pss_one (ps_ret pe_non)) pss_nil)
      (pss_cons (ps_set (i := 2) sc_parity_level.nd rfl (.inl rfl) (pe_callB (cr_sum rfl) rfl B.sum (by decide +kernel) (pa_cons (pe_lc (own := [("place", 3)]) (g := gName 3) (tt := tYes) rfl sc_parity_level.nd (pi_range1 rfl B.range (pa_cons (pe_ix ix_tup (pv 0) pe_int (fun _ _ => rfl)) pa_nil)) (blkOk_by (own := [("place", 3)]) (N := N_parity_level) (sc := defScope s_parity_level) (by decide +kernel)) (fun _ _ _ _ _ => (pg_name (i := 3) sc_parity_level.nd rfl (.inl rfl))) (fun _ _ _ _ _ => pts_nil) (fun _ _ _ _ _ => (pe_op op_and1 (pe_op op_shrK (pv 1) (pv 3)) pe_int))) pa_nil)))
      (pss_one (ps_ret (pe_op op_mod (pe_op op_add (pv 2) (pe_callTy call_int1 rfl B.int PyProof.Rows.boot_int (pa_cons (pe_cmpR op_eq (pe_ix ix_tup (pv 0) pe_int (fun _ _ => rfl)) pe_str (nomark _)) pa_nil))) pe_int)))), ?_⟩
    refine ⟨_, rfl, t, _, 1, _, rfl, rfl, S.q, rfl, by cases h.p <;> rfl, _, rfl, ifn (by rw [p_non]; exact decide_eq_false hp) ?_⟩
    show tSeq _ _ _ _ _
    refine q_asg (v := .int (bitsOf h.b n).sum) (ev_sumL (el_bits (b := h.b) (n := n) ok.b9 (ea_cons (ev_op (ev_var (i := 0) rfl) (ev_c (v := .int 0)) (rv_ixT (i := 0) S.q rfl)) ea_nil) (fun _ => rfl) (fun _ => rfl) (fun _ => rfl))) fun H1 e1 => ?_
    refine ⟨_, rfl, _, rfl, t, _, 1, _, rfl, rfl, (S.ex e1).q, rfl, by cases h.p <;> rfl, .inr ⟨_, rfl, _, _, rfl, rfl, _, _, rfl, rfl, (by show (0 : Int) < 2; decide), ?_⟩⟩
    refine qi (Q := Q) ?_ (q _ e1)
    show ((bitsOf h.b n).sum + (if decide (V.str h.p.str = V.str "odd") = true then 1 else 0)) % 2 = parL h n
    rw [p_odd]
    unfold parL oddBit
    by_cases ho : h.p = .odd
    · rw [if_pos ho, if_pos (decide_eq_true ho)]
    · rw [if_neg ho, if_neg (by rw [decide_eq_false ho]; decide)]
theorem ok_fits_shape {f : Addr} {fd : FuncData} (F : Fun K "fits_shape" "fits_shape" s_fits_shape f fd) (C_is_integer : Cal P w K mg base k "is_integer" ["value"] [] sp_is_integer) : FnOk P w K mg base CX0 (k + 1) f fd ["shape", "value"] sp_fits_shape := by
  refine F.ok sc_fits_shape (fun vs H Q E h => ?_) (fun cdv A outer s H vs Q E hr h => ?_)
  · obtain ⟨t, h, n, rfl, _⟩ := h; rfl
  · obtain ⟨t, h, n, rfl, S, ok, h0, h1, q⟩ := h
    -- 0:shape 1:value
    refine ⟨_, pss_one (ps_ret (pe_and (pcl C_is_integer hr (pa_cons (pv 1) pa_nil)) (pe_one (pe_chain op_le op_lt pe_int (pv 1) (pe_op op_shl pe_int (pe_ix ix_tup (pv 0) pe_int (fun _ _ => rfl))))))), ?_⟩
    refine ⟨_, rfl, n, rfl, fun H1 e1 => ⟨_, rfl, iteT ?_⟩⟩
    refine ⟨_, rfl, _, _, rfl, rfl, _, rfl, ify (decide_eq_true h0) ?_⟩
    have b9 := ok.b9
    refine ⟨_, rfl, t, _, 0, _, rfl, rfl, (S.ex e1).q, rfl, _, _, rfl, rfl, ⟨by omega, by omega, by decide⟩, _, _, rfl, rfl, ?_⟩
    refine qb (Q := Q) (decide_eq_true ?_) (q _ e1)
    show n < 1 * 2 ^ (h.b : Int).toNat
    rw [Int.toNat_natCast, Int.one_mul]
    exact h1
theorem ok_shape_fault {f : Addr} {fd : FuncData} (F : Fun K "shape_fault" "shape_fault" s_shape_fault f fd) (B : Bi mg) (T : Tc K mg aP aI t1 t2 t3) (C_is_integer : Cal P w K mg base k "is_integer" ["value"] [] sp_is_integer) : FnOk P w K mg base CX0 (k + 1) f fd ["value"] sp_shape_fault := by
  refine F.ok sc_shape_fault (fun vs H Q E h => ?_) (fun cdv A outer s H vs Q E hr h => ?_)
  · obtain ⟨t, h, rfl, _⟩ := h; rfl
  · obtain ⟨t, h, rfl, S, ok, q⟩ := h
    have b1 := ok.b1
    have b9 := ok.b9
    have s1 := ok.s1
    have s2 := ok.s2
    -- 0:value
    refine ⟨_, pss_cons (ps_if (PW.pt (pw_or (pt_not (pt_val (pe_callB call_isi rfl B.isinstance (by decide +kernel) (pa_cons (pv 0) (pa_cons (pe_bltn (v := .ty "tuple") (by rfl) B.tuple PyProof.Rows.boot_tuple rfl) pa_nil))))) (pw_or1 (pt_cmpR op_ne (pe_callB call_len_seq rfl B.len PySem.boot_len (pa_cons (pv 0) pa_nil)) pe_int (nomark _))))) (pss_one (ps_ret (pe_tup (pa_cons pe_non pa_nil)))) pss_nil)
      (pss_cons (ps_if (PW.pt (pw_or (pt_not (pt_val (pcl C_is_integer hr (pa_cons (pe_ix ix_tup (pv 0) pe_int (fun _ _ => rfl)) pa_nil)))) (pw_or1 (pt_not (pt_chain op_le op_le pe_int (pe_ix ix_tup (pv 0) pe_int (fun _ _ => rfl)) pe_int))))) (pss_one (ps_ret (pe_tup (pa_cons pe_int pa_nil)))) pss_nil)
      (pss_cons (ps_if (PW.pt (pw_or (pt_not (pt_val (pe_callB call_isi rfl B.isinstance (by decide +kernel) (pa_cons (pe_ix ix_tup (pv 0) pe_int (fun _ _ => rfl)) (pa_cons (pe_bltn (v := .ty "str") (by rfl) B.str PyProof.Rows.boot_str rfl) pa_nil))))) (pw_or1 (pt_cmpR op_notIn_seq (pe_ix ix_tup (pv 0) pe_int (fun _ _ => rfl)) (pe_glob rfl T.m_PARITIES T.r_PARITIES) (by rfl))))) (pss_one (ps_ret (pe_tup (pa_cons pe_int pa_nil)))) pss_nil)
      (pss_cons (ps_if (PW.pt (pw_or (pt_not (pt_val (pcl C_is_integer hr (pa_cons (pe_ix ix_tup (pv 0) pe_int (fun _ _ => rfl)) pa_nil)))) (pw_or1 (pt_not (pt_chain op_le op_le pe_int (pe_ix ix_tup (pv 0) pe_int (fun _ _ => rfl)) pe_int))))) (pss_one (ps_ret (pe_tup (pa_cons pe_int pa_nil)))) pss_nil)
      (pss_one (ps_ret (pe_tup pa_nil)))))), ?_⟩
    refine ⟨_, rfl, _, _, _, _, _, rfl, ClsV.ty _, TyX.base (TyOf.tup S), kit_ty (r := true) (by decide +kernel), _, rfl, iteF ?_⟩
    refine ⟨_, rfl, t, _, rfl, .inr S.q, rfl, _, rfl, ifn rfl ?_⟩
    refine ⟨_, rfl, t, _, 0, _, rfl, rfl, S.q, rfl, _, rfl, fun H1 e1 => ⟨_, rfl, iteF ?_⟩⟩
    refine ⟨_, rfl, t, _, 0, _, rfl, rfl, (S.ex e1).q, rfl, _, _, rfl, rfl, _, rfl, ify (decide_eq_true (by omega)) ⟨_, _, rfl, rfl, _, rfl, ifn (by
      rw [decide_eq_true (show (h.b : Int) ≤ 9 by omega)]; rfl) ?_⟩⟩
    refine ⟨_, rfl, t, _, 1, _, rfl, rfl, (S.ex e1).q, rfl, _, _, _, _, _, rfl, ClsV.ty _, TyX.base (TyOf.str _), kit_ty (r := true) (by decide +kernel), _, rfl, iteF ?_⟩
    refine ⟨_, rfl, t, _, 1, _, rfl, rfl, (S.ex e1).q, rfl, aP, _, rfl, .inr (T.qP _), rfl, rfl, _, rfl, ifn (by cases h.p <;> decide) ?_⟩
    refine ⟨_, rfl, t, _, 2, _, rfl, rfl, (S.ex e1).q, rfl, _, rfl, fun H2 e2 => ⟨_, rfl, iteF ?_⟩⟩
    have e3 := e1.trans e2
    refine ⟨_, rfl, t, _, 2, _, rfl, rfl, (S.ex e3).q, rfl, _, _, rfl, rfl, _, rfl, ify (decide_eq_true (by omega)) ⟨_, _, rfl, rfl, _, rfl, ifn (by
      rw [decide_eq_true (show (h.s : Int) ≤ 2 by omega)]; rfl) ?_⟩⟩
    refine ⟨Nat.zero_le _, fun p hp => q p _ (e3.trans (Ex.new hp)) upd_same⟩
theorem ok_require_shape {f : Addr} {fd : FuncData} (F : Fun K "require_shape" "require_shape" s_require_shape f fd) (C_shape_fault : Cal P w K mg base k "shape_fault" ["value"] [] sp_shape_fault) : FnOk P w K mg base CX0 (k + 1) f fd ["shape"] sp_require_shape := by
  refine F.ok sc_require_shape (fun vs H Q E h => ?_) (fun cdv A outer s H vs Q E hr h => ?_)
  · obtain ⟨t, h, rfl, _⟩ := h; rfl
  · obtain ⟨t, h, rfl, S, ok, q⟩ := h
    -- 0:shape 1:fault
    refine ⟨_, pss_cons (ps_set (i := 1) sc_require_shape.nd rfl (.inl rfl) (pcl C_shape_fault hr (pa_cons (pv 0) pa_nil)))
      (pss_one (ps_if (pt_cmpR (op_neD hr.units) (pv 1) (pe_tup pa_nil) (nomark _)) (pss_one ps_never) pss_nil)), ?_⟩
    refine ⟨_, rfl, t, h, rfl, S, ok, fun p H1 e1 hp => ?_⟩
    refine ⟨_, rfl, Nat.zero_le _, fun p2 hp2 => ⟨.tuple [], .tuple [], .tup (SqT.of ?_) .nil, .tup (SqT.of upd_same) .nil, rfl, rfl, _, rfl, ifn (by decide) ?_⟩⟩
    · rw [upd_ne (ne_of_none hp hp2)]; exact hp
    · exact q _ (e1.trans (Ex.new hp2))
theorem ok_size_of {f : Addr} {fd : FuncData} (F : Fun K "size_of" "size_of" s_size_of f fd) (C_require_shape : Cal P w K mg base k "require_shape" ["shape"] [] sp_require_shape) (C_frame_size : Cal P w K mg base k "frame_size" ["shape"] [] sp_frame_size) : FnOk P w K mg base CX0 (k + 1) f fd ["shape"] sp_size_of := by
  refine F.ok sc_size_of (fun vs H Q E h => ?_) (fun cdv A outer s H vs Q E hr h => ?_)
  · obtain ⟨t, h, rfl, _⟩ := h; rfl
  · obtain ⟨t, h, rfl, S, ok, q⟩ := h
    -- 0:shape
    refine ⟨_, pss_cons (ps_expr (pcl C_require_shape hr (pa_cons (pv 0) pa_nil)))
      (pss_one (ps_ret (pcl C_frame_size hr (pa_cons (pv 0) pa_nil)))), ?_⟩
    refine ⟨_, rfl, t, h, rfl, S, ok, fun H1 e1 => ?_⟩
    refine ⟨_, rfl, t, h, rfl, S.ex e1, fun H2 e2 => q _ (e1.trans e2)⟩
/-! ### for index, number in enumerate(a list of the call's own) -/
theorem for_enum {l : Addr} {xs : List V} {g : TG} {tb : TS} {D : Ends} {σ : L2.St} {H : Hp} (Pv : Nat → L2.St → Hp → Prop) (h0 : Pv 0 σ H) (hl : ∀ m σ H, m ≤ xs.length → Pv m σ H → SqL K H l xs)
    (hs : ∀ (m : Nat) x σ H T, xs[m]? = some x → Pv m σ H → H T = none → g (.ref T) σ (upd H T (.tup [.int (m : Int), x])) fun σ2 H2 => tb { D with nx := Pv (m + 1), ct := Pv (m + 1), bk := D.nx } σ2 H2) (hd : ∀ σ H, Pv xs.length σ H → D.nx σ H) :
    ∃ W : Nat → Nat → L2.St → Hp → Prop, (∃ m, W 0 m σ H) ∧ ∀ i m σ H, W i m σ H →
      ((Ite K l).stop i H ∧ D.nx σ H) ∨ ((Ite K l).go i H ∧ ∃ N : L2.St → Hp → Prop, (∀ σ' H', N σ' H' → ∃ m', m' < m ∧ W (i + 1) m' σ' H') ∧ ∀ x H', (Ite K l).yld i H x H' → g x σ H' fun σ2 H2 => tb { D with nx := N, ct := N, bk := D.nx } σ2 H2) := by
  refine ⟨fun i m σ H => m = xs.length - i ∧ i ≤ xs.length ∧ Pv i σ H, ⟨xs.length, by simp, Nat.zero_le _, h0⟩, ?_⟩
  rintro i m σ H ⟨rfl, hi, p⟩
  have q := hl i σ H hi p
  by_cases hlt : i < xs.length
  · refine .inr ⟨⟨xs, xs[i], q, by simp [hlt]⟩, Pv (i + 1), fun σ' H' p' => ⟨xs.length - (i + 1), by omega, rfl, hlt, p'⟩, fun x H' y => ?_⟩
    obtain ⟨T, z, rfl, hT, rfl, y⟩ := y
    exact hs i z σ H T (y xs q) p hT
  · have e : i = xs.length := by omega
    subst e
    exact .inl ⟨⟨xs, q, Nat.le_refl _⟩, hd σ H p⟩
theorem iv_at {ns : List Int} {m : Nat} {x : V} (h : (iv ns)[m]? = some x) : ∃ n, ns[m]? = some n ∧ x = .int n := by
  unfold iv at h
  rw [List.getElem?_map] at h
  cases e : ns[m]? with
  | none => rw [e] at h; cases h
  | some n => rw [e] at h; exact ⟨n, rfl, (Option.some.inj h).symm⟩
theorem iv_get {ns : List Int} {m : Nat} {n : Int} (h : ns[m]? = some n) : (iv ns)[m]? = some (.int n) := by
  unfold iv
  rw [List.getElem?_map, h]
  rfl
theorem iv_len (ns : List Int) : (iv ns).length = ns.length := List.length_map _
theorem iv_flat (ns : List Int) : (iv ns).all flatV = true := by
  unfold iv
  rw [List.all_map]
  exact List.all_eq_true.mpr fun _ _ => rfl
theorem iv_in (n : Int) (ns : List Int) : inV (.int n) (iv ns) = decide (n ∈ ns) := by
  unfold inV iv
  rw [List.any_map]
  induction ns with
  | nil => rfl
  | cons m r ih =>
    rw [List.any_cons, ih]
    show ((m == n) || decide (n ∈ r)) = _
    by_cases e : m = n
    · subst e; simp
    · have : ¬ n = m := fun q => e q.symm
      simp [this, e]
theorem iv_cut (ns : List Int) (m : Nat) : cutV (iv ns) none (some (m : Int)) = iv (ns.take m) := by
  unfold cutV
  rw [HT.sIx_none, HT.sIx_nat, List.drop_zero, Nat.sub_zero, iv_len]
  unfold iv
  rw [← List.map_take]
  congr 1
  rw [List.take_eq_take_iff]
  omega
theorem FunD.okn {x qual : PySem.Str} {st : Stmt} {dvs : List V} {kws : List (PySem.Str × V)} {f : Addr} {fd : FuncData} {N ps : List PySem.Str} {sp : Sp} (F : FunD K x qual (defArgs st) (defBody st) (defScope st) dvs kws f fd) (S : FnScope N ps (defScope st)) (len : ∀ vs H Q E, sp vs H Q E → vs.length = ps.length)
    (hbody : ∀ (cdv : Value) (A : Around) (outer : List Env) (s : Shared) (H : Hp) (vs : List V) (Q : VK) (E : XK), Room k (A.deeper (envOfC qual (defScope st) s.heap.objs.size f cdv)) → sp vs H Q E →
      ∃ t, PSs (cxOf CX0 P w K mg base N qual (defScope st) f cdv A outer s H E).nox (defBody st) t ∧ t { nx := fun _ H' => Q .non H', rt := Q } (start N vs) H) : FnOk P w K mg base CX0 (k + 1) f fd ps sp :=
  F.ok S len fun cdv A outer s H vs Q E hr hsp => by
    obtain ⟨t, h, q⟩ := hbody cdv A outer s H vs Q E hr hsp
    exact ⟨t, h.nox, q⟩
theorem ok_require_text {f : Addr} {fd : FuncData} (F : FunD K "require_text" "require_text" (defArgs s_require_text) (defBody s_require_text) (defScope s_require_text) [.int 0, .int 60] [] f fd) (B : Bi mg) (C_fits_shape : Cal P w K mg base k "fits_shape" ["shape", "value"] [] sp_fits_shape) : FnOk P w K mg base CX0 (k + 1) f fd ["shape", "numbers", "least", "most"] sp_require_text := by
  refine FunD.okn F sc_require_text (fun vs H Q E h => ?_) (fun cdv A outer s H vs Q E hr h => ?_)
  · obtain ⟨t, h, l, ns, lo, hi, rfl, _⟩ := h; rfl
  · obtain ⟨t, h, l, ns, lo, hi, rfl, S, ok, hl, hn, h1, h2, h3, q⟩ := h
    -- 0:shape 1:numbers 2:least 3:most 4:index 5:number
    refine ⟨_, pss_cons (ps_if (PW.pt (pw_or (pt_not (pt_val (pe_callB call_isi rfl B.isinstance (by decide +kernel) (pa_cons (pv 1) (pa_cons (pe_bltn (v := .ty "list") (by rfl) B.list PyProof.Rows.boot_list rfl) pa_nil))))) (pw_or1 (pt_not (pt_chain op_le op_le (pv 2) (pe_callB call_len_seq rfl B.len PySem.boot_len (pa_cons (pv 1) pa_nil)) (pv 3)))))) (pss_one ps_never) pss_nil)
      (pss_one (ps_for PassesOwn.never rfl (pi_enum rfl B.enumerate (pa_cons (pv 1) pa_nil)) (pg_tup rfl (pgs_cons (pg_name (i := 4) sc_require_text.nd rfl (.inl rfl)) (pgs_cons (pg_name (i := 5) sc_require_text.nd rfl (.inl rfl)) pgs_nil))) (pss_one (ps_if (pt_not (pt_val (pcl C_fits_shape hr (pa_cons (pv 0) (pa_cons (pv 5) pa_nil))))) (pss_one ps_never) pss_nil)))), ?_⟩
    refine ⟨_, rfl, _, _, _, _, _, rfl, ClsV.ty _, TyX.base (TyOf.lst hl), kit_ty (r := true) (by decide +kernel), _, rfl, iteF ?_⟩
    refine ⟨_, rfl, _, rfl, l, _, rfl, .inl (SqL.of hl), _, _, rfl, rfl, _, rfl, ify (decide_eq_true (by rw [iv_len]; exact h1)) ⟨_, rfl, _, _, rfl, rfl, _, rfl, ifn (by
      rw [decide_eq_true (show ((iv ns).length : Int) ≤ hi by rw [iv_len]; exact h2)]; rfl) ?_⟩⟩
    refine ⟨_, rfl, l, _, rfl, SqL.of hl, for_enum (xs := iv ns) (fun m σ H' => ∃ v4 v5, σ = [some (.ref t), some (.ref l), some (.int lo), some (.int hi), v4, v5] ∧ Ex H H') ⟨none, none, rfl, Ex.refl H⟩ (fun m σ H' _ ⟨_, _, _, e⟩ => SqL.of (e _ _ hl)) ?_ ?_⟩
    · rintro m x σ H1 T hx ⟨v4, v5, rfl, e1⟩ hT
      obtain ⟨n, hm, rfl⟩ := iv_at hx
      have hv := hn n (List.mem_of_getElem? hm)
      have e2 := e1.trans (Ex.new (o := .tup [.int (m : Int), .int n]) hT)
      refine ⟨T, _, rfl, SqT.of upd_same, rfl, _, _, rfl, _, _, rfl, rfl, ?_⟩
      refine ⟨_, rfl, _, rfl, t, h, n, rfl, S.ex e2, ok, hv.1, hv.2, fun H2 e3 => ⟨_, rfl, iteF ?_⟩⟩
      exact ⟨_, _, rfl, e2.trans e3⟩
    · rintro σ H1 ⟨v4, v5, rfl, e1⟩
      exact q _ e1
theorem ok_require_different {f : Addr} {fd : FuncData} (F : Fun K "require_different" "require_different" s_require_different f fd) (B : Bi mg) (C_fits_shape : Cal P w K mg base k "fits_shape" ["shape", "value"] [] sp_fits_shape) : FnOk P w K mg base CX0 (k + 1) f fd ["shape", "numbers", "most"] sp_require_different := by
  refine F.ok sc_require_different (fun vs H Q E h => ?_) (fun cdv A outer s H vs Q E hr h => ?_)
  · obtain ⟨t, h, l, ns, hi, rfl, _⟩ := h; rfl
  · obtain ⟨t, h, l, ns, hi, rfl, S, ok, hl, hn, nd, h1, h2, h3, q⟩ := h
    -- 0:shape 1:numbers 2:most 3:index 4:number
    refine ⟨_, pss_cons (ps_if (PW.pt (pw_or (pt_not (pt_val (pe_callB call_isi rfl B.isinstance (by decide +kernel) (pa_cons (pv 1) (pa_cons (pe_bltn (v := .ty "list") (by rfl) B.list PyProof.Rows.boot_list rfl) pa_nil))))) (pw_or1 (pt_not (pt_chain op_le op_le pe_int (pe_callB call_len_seq rfl B.len PySem.boot_len (pa_cons (pv 1) pa_nil)) (pv 2)))))) (pss_one ps_never) pss_nil)
      (pss_one (ps_for PassesOwn.never rfl (pi_enum rfl B.enumerate (pa_cons (pv 1) pa_nil)) (pg_tup rfl (pgs_cons (pg_name (i := 3) sc_require_different.nd rfl (.inl rfl)) (pgs_cons (pg_name (i := 4) sc_require_different.nd rfl (.inl rfl)) pgs_nil))) (pss_one (ps_if (PW.pt (pw_or (pt_not (pt_val (pcl C_fits_shape hr (pa_cons (pv 0) (pa_cons (pv 4) pa_nil))))) (pw_or1 (pt_cmpR op_in_seq (pv 4) (pe_slice sl_list (pv 1) po_none (po_some (pv 3))) (by rfl))))) (pss_one ps_never) pss_nil)))), ?_⟩
    refine ⟨_, rfl, _, _, _, _, _, rfl, ClsV.ty _, TyX.base (TyOf.lst hl), kit_ty (r := true) (by decide +kernel), _, rfl, iteF ?_⟩
    refine ⟨_, rfl, l, _, rfl, .inl (SqL.of hl), _, _, rfl, rfl, _, rfl, ify (decide_eq_true (by rw [iv_len]; omega)) ⟨_, rfl, _, _, rfl, rfl, _, rfl, ifn (by
      rw [decide_eq_true (show ((iv ns).length : Int) ≤ hi by rw [iv_len]; exact h2)]; rfl) ?_⟩⟩
    refine ⟨_, rfl, l, _, rfl, SqL.of hl, for_enum (xs := iv ns) (fun m σ H' => ∃ v4 v5, σ = [some (.ref t), some (.ref l), some (.int hi), v4, v5] ∧ Ex H H') ⟨none, none, rfl, Ex.refl H⟩ (fun m σ H' _ ⟨_, _, _, e⟩ => SqL.of (e _ _ hl)) ?_ ?_⟩
    · rintro m x σ H1 T hx ⟨v4, v5, rfl, e1⟩ hT
      obtain ⟨n, hm, rfl⟩ := iv_at hx
      have hv := hn n (List.mem_of_getElem? hm)
      have e2 := e1.trans (Ex.new (o := .tup [.int (m : Int), .int n]) hT)
      refine ⟨T, _, rfl, SqT.of upd_same, rfl, _, _, rfl, _, _, rfl, rfl, ?_⟩
      refine ⟨_, rfl, _, rfl, t, h, n, rfl, S.ex e2, ok, hv.1, hv.2, fun H2 e3 => ⟨_, rfl, iteF ?_⟩⟩
      have e4 := e2.trans e3
      refine ⟨_, rfl, _, rfl, _, rfl, m, rfl, l, _, rfl, SqL.of (e4 _ _ hl), fun c hc => ?_⟩
      have e5 := e4.trans (Ex.new (o := .lst (cutV (iv ns) none (some (m : Int)))) hc)
      refine ⟨c, _, rfl, .inl (SqL.of upd_same), rfl, by rw [iv_cut]; exact iv_flat _, _, rfl, ifn ?_ ⟨_, _, rfl, e5⟩⟩
      show (if false = true then !inV (V.int n) (cutV (iv ns) none (some (m : Int))) else inV (V.int n) (cutV (iv ns) none (some (m : Int)))) = false
      rw [if_neg (by decide), iv_cut, iv_in]
      refine decide_eq_false fun hmem => ?_
      obtain ⟨i, hi2, he⟩ := List.mem_take_iff_getElem.mp hmem
      have hi3 : i < ns.length := by omega
      have a1 : ns[i]? = some n := by rw [List.getElem?_eq_getElem hi3, he]
      have := nd_ix nd a1 hm
      omega
    · rintro σ H1 ⟨v4, v5, rfl, e1⟩
      exact q _ e1
theorem ok_require_levels {f : Addr} {fd : FuncData} (F : Fun K "require_levels" "require_levels" s_require_levels f fd) (B : Bi mg) (T : Tc K mg aP aI t1 t2 t3) (C_is_integer : Cal P w K mg base k "is_integer" ["value"] [] sp_is_integer) : FnOk P w K mg base CX0 (k + 1) f fd ["levels"] sp_require_levels := by
  refine F.ok sc_require_levels (fun vs H Q E h => ?_) (fun cdv A outer s H vs Q E hr h => ?_)
  · obtain ⟨l, ls, rfl, _⟩ := h; rfl
  · obtain ⟨l, ls, rfl, hl, hn, h8, q⟩ := h
    -- 0:levels 1:index 2:level
    refine ⟨_, pss_cons (ps_if (PW.pt (pw_or (pt_not (pt_val (pe_callB call_isi rfl B.isinstance (by decide +kernel) (pa_cons (pv 0) (pa_cons (pe_bltn (v := .ty "list") (by rfl) B.list PyProof.Rows.boot_list rfl) pa_nil))))) (pw_or1 (pt_cmpR op_gt (pe_callB call_len_seq rfl B.len PySem.boot_len (pa_cons (pv 0) pa_nil)) (pe_glob rfl T.m_MOST_LEVELS T.r_MOST_LEVELS) (nomark _))))) (pss_one ps_never) pss_nil)
      (pss_one (ps_for PassesOwn.never rfl (pi_enum rfl B.enumerate (pa_cons (pv 0) pa_nil)) (pg_tup rfl (pgs_cons (pg_name (i := 1) sc_require_levels.nd rfl (.inl rfl)) (pgs_cons (pg_name (i := 2) sc_require_levels.nd rfl (.inl rfl)) pgs_nil))) (pss_one (ps_if (PW.pt (pw_or (pt_not (pt_val (pcl C_is_integer hr (pa_cons (pv 2) pa_nil)))) (pw_or1 (pt_not (pt_chain op_le op_le pe_int (pv 2) pe_int))))) (pss_one ps_never) pss_nil)))), ?_⟩
    refine ⟨_, rfl, _, _, _, _, _, rfl, ClsV.ty _, TyX.base (TyOf.lst hl), kit_ty (r := true) (by decide +kernel), _, rfl, iteF ?_⟩
    refine ⟨_, rfl, l, _, rfl, .inl (SqL.of hl), _, _, rfl, rfl, _, rfl, ifn (decide_eq_false (by rw [iv_len]; omega)) ?_⟩
    refine ⟨_, rfl, l, _, rfl, SqL.of hl, for_enum (xs := iv ls) (fun m σ H' => ∃ v4 v5, σ = [some (.ref l), v4, v5] ∧ Ex H H') ⟨none, none, rfl, Ex.refl H⟩ (fun m σ H' _ ⟨_, _, _, e⟩ => SqL.of (e _ _ hl)) ?_ ?_⟩
    · rintro m x σ H1 T hx ⟨v4, v5, rfl, e1⟩ hT
      obtain ⟨n, hm, rfl⟩ := iv_at hx
      have hv := hn n (List.mem_of_getElem? hm)
      have e2 := e1.trans (Ex.new (o := .tup [.int (m : Int), .int n]) hT)
      refine ⟨T, _, rfl, SqT.of upd_same, rfl, _, _, rfl, _, _, rfl, rfl, ?_⟩
      refine ⟨_, rfl, n, rfl, fun H2 e3 => ⟨_, rfl, iteF ?_⟩⟩
      refine ⟨_, rfl, _, _, rfl, rfl, _, rfl, ify (decide_eq_true (by omega)) ⟨_, _, rfl, rfl, _, rfl, ifn (by
        rw [decide_eq_true (show n ≤ 1 by omega)]; rfl) ⟨_, _, rfl, e2.trans e3⟩⟩⟩
    · rintro σ H1 ⟨v4, v5, rfl, e1⟩
      exact q _ e1
end
end Sb

namespace Sb
open PySem PySem.Spec PyProof.Rows L2 Evl
section
variable {P : Program} {w : World} {K : PySem.W.Frag} {mg : PySem.Str → Option Value} {base : Heap} {k : Nat} {aP aI : Addr} {t1 t2 t3 : Tok}
theorem ok_frame_levels {f : Addr} {fd : FuncData} (F : Fun K "frame_levels" "frame_levels" s_frame_levels f fd) (B : Bi mg) (C_parity_level : Cal P w K mg base k "parity_level" ["shape", "number"] [] sp_parity_level) : FnOk P w K mg base CX0 (k + 1) f fd ["shape", "number"] sp_frame_levels := by
  refine F.ok sc_frame_levels (fun vs H Q E h => ?_) (fun cdv A outer s H vs Q E hr h => ?_)
  · obtain ⟨t, h, n, rfl, _⟩ := h; rfl
  · obtain ⟨t, h, n, rfl, S, ok, hn, q⟩ := h
    have b9 := ok.b9
    have s2 := ok.s2
    -- 0:shape 1:number 2:levels 3:place
    refine ⟨_, pss_cons (ps_set (i := 2) sc_frame_levels.nd rfl (.inl rfl) (pe_op op_cat (pe_lst (pa_cons pe_int pa_nil)) (pe_lc (own := [("place", 3)]) (g := gName 3) (tt := tYes) rfl sc_frame_levels.nd (pi_range1 rfl B.range (pa_cons (pe_ix ix_tup (pv 0) pe_int (fun _ _ => rfl)) pa_nil)) (blkOk_by (own := [("place", 3)]) (N := N_frame_levels) (sc := defScope s_frame_levels) (by decide +kernel)) (fun _ _ _ _ _ => (pg_name (i := 3) sc_frame_levels.nd rfl (.inl rfl))) (fun _ _ _ _ _ => pts_nil) (fun _ _ _ _ _ => (pe_op op_and1 (pe_op op_shrK (pv 1) (pv 3)) pe_int)))))
      (pss_cons (ps_if (pt_cmpR op_ne (pe_ix ix_tup (pv 0) pe_int (fun _ _ => rfl)) pe_str (nomark _)) (pss_one (ps_expr (pe_bm PySem.F.plainAttrs_list PySem.F.slot_list_append PySem.F.type_list_append mt_append (pv 2) (pa_cons (pcl C_parity_level hr (pa_cons (pv 0) (pa_cons (pv 1) pa_nil))) pa_nil)))) pss_nil)
      (pss_one (ps_ret (pe_op op_cat (pv 2) (pe_op op_rep (pe_lst (pa_cons pe_int pa_nil)) (pe_ix ix_tup (pv 0) pe_int (fun _ _ => rfl))))))), ?_⟩
    refine q_asgL (xs := iv (0 :: bitsOf h.b n)) (el_cat (el_lst (ea_cons (ev_c (v := .int 0)) ea_nil) (by show 1 ≤ 100000; decide)) (el_bits (b := h.b) (n := n) ok.b9 (ea_cons (ev_op (ev_var (i := 0) rfl) (ev_c (v := .int 0)) (rv_ixT (i := 0) S.q rfl)) ea_nil) (fun _ => rfl) (fun _ => rfl) (fun _ => rfl)) (by
      show 1 + (iv (bitsOf h.b n)).length ≤ 100000
      rw [iv_len, bits_len]; omega)) fun p H1 hp e1 hx => ?_
    -- if shape[1] != 'none'
    have fin : ∀ H2, Ex H H2 → H2 p = some (.lst (iv ((0 :: bitsOf h.b n) ++ parLs h n))) → tRet (tOp rCat (tVar 2) (tOp rRep (tLst (tCons (tC (.int 1)) tNil)) (tOp (rIxT K) (tVar 0) (tC (.int 2))))) { nx := fun _ H' => Q .non H', rt := Q } [some (.ref t), some (.int n), some (.ref p), none] H2 := fun H2 e2 h2 => by
      refine s_retL (xs := iv (frm h n)) ?_ fun r H3 hr3 e3 h3 => q r H3 (fresh_back e2 hr3) (e2.trans e3) h3
      have er : iv (frm h n) = iv ((0 :: bitsOf h.b n) ++ parLs h n) ++ (List.replicate (h.s : Int).toNat [V.int 1]).flatten := by
        have : (List.replicate (h.s : Int).toNat [V.int 1]).flatten = iv (List.replicate h.s 1) := by
          rw [Int.toNat_natCast]
          unfold iv
          rw [List.map_replicate, List.flatten_replicate_singleton]
        rw [this]
        unfold frm iv
        rw [List.map_append]
      rw [er]
      refine el_catV (ev_var rfl) h2 (el_rep (el_lst (ea_cons (ev_c (v := .int 1)) ea_nil) (by show 1 ≤ 100000; decide)) (ev_op (ev_var (i := 0) rfl) (ev_c (v := .int 2)) (rv_ixT (i := 2) (S.ex e2).q rfl)) (by omega) (by omega) (by show 1 ≤ 10; decide)) ?_
      rw [iv_len, List.length_append, List.length_cons, bits_len, parLs_len, List.length_flatten, List.map_replicate, List.sum_replicate_nat]
      have := h.pn_le
      show h.b + 1 + h.pn + (h.s : Int).toNat * 1 ≤ 100000
      omega
    refine ⟨_, rfl, t, _, 1, _, rfl, rfl, (S.ex e1).q, rfl, by cases h.p <;> rfl, _, rfl, ?_⟩
    rw [p_non]
    by_cases hpar : h.p = .non
    · rw [decide_eq_true hpar]
      refine iteF ?_
      have e0 : parLs h n = [] := by unfold parLs; rw [if_pos hpar]
      rw [e0, List.append_nil] at fin
      exact fin H1 e1 hx
    · rw [decide_eq_false hpar]
      refine iteT ?_
      have e0 : parLs h n = [parL h n] := by unfold parLs; rw [if_neg hpar]
      refine ⟨_, rfl, .inl ⟨rfl, _, SqL.of hx⟩, _, rfl, _, rfl, t, h, n, rfl, S.ex e1, ok, hpar, hn, fun H2 e2 => ?_⟩
      refine ⟨p, _, _, rfl, rfl, e2 _ _ hx, by rw [iv_len, List.length_cons, bits_len]; exact small1000 (by omega), ?_⟩
      refine fin _ (Ex.mut (e1.trans e2) hp) ?_
      rw [upd_same, e0]
      unfold iv
      rw [List.map_append]
      rfl
theorem yes_if {σ : L2.St} {H : Hp} {A B : Hp → Prop} (h : A H) : tYes σ H (fun b H3 => if b = true then A H3 else B H3) := by
  show (if true = true then A H else B H)
  rw [if_pos rfl]
  exact h
theorem iv_snoc (ns : List Int) (n : Int) : iv (ns ++ [n]) = iv ns ++ [V.int n] := List.map_append
theorem iv_app (ns ms : List Int) : iv (ns ++ ms) = iv ns ++ iv ms := List.map_append
/-- two fors: the outer over a list -/
theorem lc2_out {K : PySem.W.Frag} {a : Addr} {xs : List V} {H1 : Hp} {D : Addr} {Qd : Hp → Prop} {body : V → Hp → (Hp → Prop) → Prop} (Pv : Nat → Hp → Prop) (h0 : Pv 0 (upd H1 D (.lst []))) (hl : ∀ i H, i ≤ xs.length → Pv i H → SqL K H a xs)
    (hs : ∀ i x H, xs[i]? = some x → Pv i H → body x H (Pv (i + 1))) (hd : ∀ H, Pv xs.length H → Qd H) :
    ∃ W : Nat → Nat → Hp → Prop, (∃ m, W 0 m (upd H1 D (.lst []))) ∧ ∀ i m H, W i m H →
      ((Itl K a).stop i H ∧ Qd H) ∨ ((Itl K a).go i H ∧ ∃ Nx : Hp → Prop, (∀ H', Nx H' → ∃ m', m' < m ∧ W (i + 1) m' H') ∧ ∀ x H', (Itl K a).yld i H x H' → body x H' Nx) := by
  refine ⟨fun i m H => m = xs.length - i ∧ i ≤ xs.length ∧ Pv i H, ⟨xs.length, by simp, Nat.zero_le _, h0⟩, ?_⟩
  rintro i m H ⟨rfl, hi, p⟩
  have q := hl i H hi p
  by_cases hlt : i < xs.length
  · refine .inr ⟨⟨xs, xs[i], q, by simp [hlt]⟩, Pv (i + 1), fun H' p' => ⟨xs.length - (i + 1), by omega, rfl, hlt, p'⟩, fun x H' y => ?_⟩
    obtain ⟨e, y⟩ := y
    subst e
    exact hs i x _ (y xs q) p
  · have e : i = xs.length := by omega
    subst e
    exact .inl ⟨⟨xs, q, Nat.le_refl _⟩, hd H p⟩
/-- the inner over a list -/
theorem lc2_in {K : PySem.W.Frag} {a : Addr} {xs : List V} {H1 : Hp} {Qd : Hp → Prop} {body : V → Hp → (Hp → Prop) → Prop} (Pv : Nat → Hp → Prop) (h0 : Pv 0 H1) (hl : ∀ i H, i ≤ xs.length → Pv i H → SqL K H a xs)
    (hs : ∀ i x H, xs[i]? = some x → Pv i H → body x H (Pv (i + 1))) (hd : ∀ H, Pv xs.length H → Qd H) :
    ∃ W : Nat → Nat → Hp → Prop, (∃ m, W 0 m H1) ∧ ∀ i m H, W i m H →
      ((Itl K a).stop i H ∧ Qd H) ∨ ((Itl K a).go i H ∧ ∃ Nx : Hp → Prop, (∀ H', Nx H' → ∃ m', m' < m ∧ W (i + 1) m' H') ∧ ∀ x H', (Itl K a).yld i H x H' → body x H' Nx) := by
  refine ⟨fun i m H => m = xs.length - i ∧ i ≤ xs.length ∧ Pv i H, ⟨xs.length, by simp, Nat.zero_le _, h0⟩, ?_⟩
  rintro i m H ⟨rfl, hi, p⟩
  have q := hl i H hi p
  by_cases hlt : i < xs.length
  · refine .inr ⟨⟨xs, xs[i], q, by simp [hlt]⟩, Pv (i + 1), fun H' p' => ⟨xs.length - (i + 1), by omega, rfl, hlt, p'⟩, fun x H' y => ?_⟩
    obtain ⟨e, y⟩ := y
    subst e
    exact hs i x _ (y xs q) p
  · have e : i = xs.length := by omega
    subst e
    exact .inl ⟨⟨xs, q, Nat.le_refl _⟩, hd H p⟩
theorem txt_take (h : Shp) (ns : List Int) {i : Nat} {n : Int} (e : ns[i]? = some n) : txt h (ns.take (i + 1)) = txt h (ns.take i) ++ frm h n := by
  unfold txt
  rw [List.take_add_one, e, List.flatMap_append]
  show _ ++ (frm h n ++ []) = _
  rw [List.append_nil]
theorem txt_len (h : Shp) : ∀ ns : List Int, (txt h ns).length = ns.length * h.size
  | [] => (Nat.zero_mul _).symm
  | n :: ns => by
    have e : txt h (n :: ns) = frm h n ++ txt h ns := List.flatMap_cons
    rw [e, List.length_append, frm_len, txt_len h ns, List.length_cons, Nat.succ_mul, Nat.add_comm]
theorem size_le {h : Shp} (ok : h.Ok) : h.size ≤ 13 := by
  have := ok.b9; have := ok.s2; have := h.pn_le; unfold Shp.size; omega
theorem ok_levels_of {f : Addr} {fd : FuncData} (F : Fun K "levels_of" "levels_of" s_levels_of f fd) (C_require_shape : Cal P w K mg base k "require_shape" ["shape"] [] sp_require_shape) (C_require_text : Cal P w K mg base k "require_text" ["shape", "numbers", "least", "most"] [.int 0, .int 60] sp_require_text)
    (C_frame_levels : Cal P w K mg base k "frame_levels" ["shape", "number"] [] sp_frame_levels) : FnOk P w K mg base CX0 (k + 1) f fd ["shape", "numbers"] sp_levels_of := by
  refine F.ok sc_levels_of (fun vs H Q E h => ?_) (fun cdv A outer s H vs Q E hr h => ?_)
  · obtain ⟨t, h, l, ns, rfl, _⟩ := h; rfl
  · obtain ⟨t, h, l, ns, rfl, S, ok, hl, hn, h6, q⟩ := h
    -- 0:shape 1:numbers 2:number 3:level
    refine ⟨_, pss_cons (ps_expr (pcl C_require_shape hr (pa_cons (pv 0) pa_nil)))
      (pss_cons (ps_expr (pcl C_require_text hr (pa_cons (pv 0) (pa_cons (pv 1) pa_nil))))
      (pss_one (ps_ret (pe_lc2 (own := [("number", 2), ("level", 3)]) (vs1 := [3]) (g := gName 2) (tt := tYes) (wi1 := iList K (tCall sp_frame_levels [] E0 (tCons (tVar 0) (tCons (tVar 2) tNil)))) (g1 := gName 3) (tt1 := tYes) rfl sc_levels_of.nd (pi_list (pv 1)) (blkOk_by (own := [("number", 2), ("level", 3)]) (N := N_levels_of) (sc := defScope s_levels_of) (by decide +kernel)) (by decide) (fun _ _ _ _ _ => (pg_name (i := 2) sc_levels_of.nd rfl (.inl rfl))) (fun _ _ _ _ _ => pts_nil) (fun _ _ _ _ _ => (pi_list (pcl C_frame_levels hr (pa_cons (pv 0) (pa_cons (pv 2) pa_nil))))) (fun _ _ _ _ _ => (pg_name (i := 3) sc_levels_of.nd rfl (.inl rfl))) (fun _ _ _ _ _ => pts_nil) (fun _ _ _ _ _ => (pv 3)))))), ?_⟩
    refine ⟨_, rfl, t, h, rfl, S, ok, fun H1 e1 => ?_⟩
    refine ⟨_, rfl, _, rfl, t, h, l, ns, 0, 60, rfl, S.ex e1, ok, e1 _ _ hl, hn, by omega, by omega, by omega, fun H2 e2' => ?_⟩
    have e2 := e1.trans e2'
    refine ⟨_, rfl, l, rfl, ⟨_, SqL.of (e2 _ _ hl)⟩, fun D hD => lc2_out (xs := iv ns) (fun i H' => Ex H2 H' ∧ H' D = some (.lst (iv (txt h (ns.take i))))) ⟨Ex.new hD, upd_same⟩ (fun i H' _ p => SqL.of (p.1 _ _ (e2 _ _ hl))) ?_ ?_⟩
    · rintro i x H3 hx ⟨e3, h3⟩
      obtain ⟨n, hm, rfl⟩ := iv_at hx
      have hv := hn n (List.mem_of_getElem? hm)
      refine ⟨rfl, ?_⟩
      refine yes_if ?_
      refine ⟨_, rfl, _, rfl, t, h, n, rfl, S.ex (e2.trans e3), ok, hv.1, fun p H4 hp e4 hx4 => ?_⟩
      have np : p ≠ D := fun z => by rw [z, h3] at hp; cases hp
      refine ⟨p, rfl, ⟨_, SqL.of hx4⟩, lc2_in (xs := iv (frm h n)) (fun j H' => Ex H2 H' ∧ H' p = some (.lst (iv (frm h n))) ∧ H' D = some (.lst (iv (txt h (ns.take i) ++ (frm h n).take j)))) ⟨e3.trans e4, hx4, ?_⟩ (fun j H' _ p => SqL.of p.2.1) ?_ ?_⟩
      · rw [List.take_zero, List.append_nil]
        exact e4 _ _ h3
      · rintro j y H5 hy ⟨e5, h5, d5⟩
        obtain ⟨b, hb, rfl⟩ := iv_at hy
        refine ⟨rfl, ?_⟩
        refine yes_if ?_
        refine ⟨_, rfl, _, d5, ?_, ?_, ?_, ?_⟩
        · rw [iv_len, List.length_append, txt_len, List.length_take, List.length_take, frm_len]
          have := size_le ok
          have h2 : min i ns.length * h.size ≤ 60 * 13 := Nat.mul_le_mul (by omega) this
          exact small1000 (by omega)
        · exact Ex.mut e5 hD
        · rw [upd_ne np]; exact h5
        · rw [upd_same, List.take_add_one, hb, ← List.append_assoc]
          show some (HO.lst (_ ++ [V.int b])) = some (HO.lst (iv (_ ++ [b])))
          rw [iv_snoc]
      · rintro H5 ⟨e5, h5, d5⟩
        refine ⟨e5, ?_⟩
        rw [iv_len, List.take_length] at d5
        rw [txt_take h ns hm]
        exact d5
    · rintro H3 ⟨e3, h3⟩
      rw [iv_len, List.take_length] at h3
      exact q D H3 (fresh_back e2 hD) (e2.trans e3) h3
end
end Sb

namespace Sb
open PySem PySem.Spec PyProof.Rows L2 Evl
section
variable {P : Program} {w : World} {K : PySem.W.Frag} {mg : PySem.Str → Option Value} {base : Heap} {k : Nat} {aP aI : Addr} {t1 t2 t3 : Tok}
/-! ### tests of ints and of the parity's name -/
theorem dec_i (i j : Int) : decide (V.int i = V.int j) = decide (i = j) := by
  by_cases e : i = j
  · rw [decide_eq_true e, e]; exact decide_eq_true rfl
  · rw [decide_eq_false e]; exact decide_eq_false fun q => e (V.int.inj q)
theorem ifI {a b : Int} {A B : Prop} (h1 : a = b → A) (h2 : a ≠ b → B) : if decide (V.int a = V.int b) = true then A else B := by
  rw [dec_i]
  by_cases e : a = b
  · rw [decide_eq_true e]; exact iteT (h1 e)
  · rw [decide_eq_false e]; exact iteF (h2 e)
theorem ifNI {a b : Int} {A B : Prop} (h1 : a ≠ b → A) (h2 : a = b → B) : if (!decide (V.int a = V.int b)) = true then A else B := by
  rw [dec_i]
  by_cases e : a = b
  · rw [decide_eq_true e]; exact iteF (h2 e)
  · rw [decide_eq_false e]; exact iteT (h1 e)
theorem ifD {c : Prop} [Decidable c] {A B : Prop} (h1 : c → A) (h2 : ¬ c → B) : if decide c = true then A else B := by
  by_cases e : c
  · rw [decide_eq_true e]; exact iteT (h1 e)
  · rw [decide_eq_false e]; exact iteF (h2 e)
theorem ifNP {p : Par} {A B : Prop} (h1 : p ≠ .non → A) (h2 : p = .non → B) : if (!decide (V.str p.str = V.str "none")) = true then A else B := by
  rw [p_non]
  by_cases e : p = .non
  · rw [decide_eq_true e]; exact iteF (h2 e)
  · rw [decide_eq_false e]; exact iteT (h1 e)
theorem ifP {p : Par} {A B : Prop} (h1 : p = .non → A) (h2 : p ≠ .non → B) : if decide (V.str p.str = V.str "none") = true then A else B := by
  rw [p_non]
  by_cases e : p = .non
  · rw [decide_eq_true e]; exact iteT (h1 e)
  · rw [decide_eq_false e]; exact iteF (h2 e)
theorem scal_p (p : Par) (x : PySem.Str) : scal (.str p.str) (.str x) = true := rfl
/-- ((a, b, c, d), word) made on the way -/
theorem two_tup {Q : VK} {H H3 : Hp} {xs : List V} {w : V} (q : ∀ r q' H', Ex H H' → SqT K H' r [.ref q', w] → SqT K H' q' xs → Q (.ref r) H') (e3 : Ex H H3) (q2 : Addr) (hq2 : H3 q2 = none) :
    2 ≤ sizeLine ∧ ∀ r, (upd H3 q2 (.tup xs)) r = none → Q (.ref r) (upd (upd H3 q2 (.tup xs)) r (.tup [.ref q2, w])) :=
  ⟨by decide, fun r hr => q r q2 _ ((e3.trans (Ex.new hq2)).trans (Ex.new hr)) (SqT.of upd_same) (SqT.of (by
    rw [upd_ne (ne_of_none (upd_same : upd H3 q2 (.tup xs) q2 = some (.tup xs)) hr)]
    exact upd_same))⟩
/-- (a state that stands, word) -/
theorem one_tup {Q : VK} {H H3 : Hp} {q2 : Addr} {xs : List V} {w : V} (q : ∀ r q' H', Ex H H' → SqT K H' r [.ref q', w] → SqT K H' q' xs → Q (.ref r) H') (e3 : Ex H H3) (hq : SqT K H3 q2 xs) :
    2 ≤ sizeLine ∧ ∀ r, H3 r = none → Q (.ref r) (upd H3 r (.tup [.ref q2, w])) :=
  ⟨by decide, fun r hr => q r q2 _ (e3.trans (Ex.new hr)) (SqT.of upd_same) (ex_t (Ex.new hr) hq)⟩
theorem ok_after_level {f : Addr} {fd : FuncData} (F : Fun K "after_level" "after_level" s_after_level f fd) (B : Bi mg) (T : Tc K mg aP aI t1 t2 t3) (C_first_stop : Cal P w K mg base k "first_stop" ["shape"] [] sp_first_stop) (C_frame_size : Cal P w K mg base k "frame_size" ["shape"] [] sp_frame_size) :
    FnOk P w K mg base CX0 (k + 1) f fd ["shape", "state", "level"] (sp_after_level K) := by
  refine F.ok sc_after_level (fun vs H Q E h => ?_) (fun cdv A outer s H vs Q E hr h => ?_)
  · obtain ⟨t, h, q, st, l, rfl, _⟩ := h; rfl
  · obtain ⟨t, h, qs, st, l, rfl, S, ok, Sq, hlo, hl, q⟩ := h
    have b9 := ok.b9
    -- 0:shape 1:state 2:level 3:place 4:ones 5:number 6:is_empty
    refine ⟨_, pss_cons (ps_asg (pv 1) (pg_tup rfl (pgs_cons (pg_name (i := 3) sc_after_level.nd rfl (.inl rfl)) (pgs_cons (pg_name (i := 4) sc_after_level.nd rfl (.inl rfl)) (pgs_cons (pg_name (i := 5) sc_after_level.nd rfl (.inl rfl)) (pgs_cons (pg_name (i := 6) sc_after_level.nd rfl (.inl rfl)) pgs_nil))))))
      (pss_cons (ps_if (pt_cmpR op_eq (pv 3) (pe_glob rfl T.m_WAITING T.r_WAITING) (nomark _)) (pss_one (ps_ret (pe_tup (pa_cons (pe_ifExp (pt_cmpR op_eq (pv 2) pe_int (nomark _)) (pe_glob rfl T.m_IDLE T.r_IDLE) (pv 1)) (pa_cons pe_non pa_nil))))) pss_nil)
      (pss_cons (ps_if (pt_cmpR op_eq (pv 3) pe_int (nomark _)) (pss_one (ps_ret (pe_tup (pa_cons (pe_ifExp (pt_cmpR op_eq (pv 2) pe_int (nomark _)) (pe_tup (pa_cons pe_int (pa_cons pe_int (pa_cons pe_int (pa_cons pe_bl pa_nil))))) (pe_glob rfl T.m_IDLE T.r_IDLE)) (pa_cons pe_non pa_nil))))) pss_nil)
      (pss_cons (ps_set (i := 6) sc_after_level.nd rfl (.inl rfl) (pe_and (pv 6) (pe_one (pe_cmpR op_eq (pv 2) pe_int (nomark _)))))
      (pss_cons (ps_if (pt_cmpR op_lt (pv 3) (pcl C_first_stop hr (pa_cons (pv 0) pa_nil)) (nomark _)) (pss_cons (ps_if (pt_cmpR op_le (pv 3) (pe_ix ix_tup (pv 0) pe_int (fun _ _ => rfl)) (nomark _)) (pss_one (ps_aug (i := 5) sc_after_level.nd rfl (.inl rfl) (pe_op op_shl (pv 2) (pe_op op_sub (pv 3) pe_int)) ip_add)) pss_nil)
      (pss_cons (ps_if (pt_cmpR op_ne (pe_ix ix_tup (pv 0) pe_int (fun _ _ => rfl)) pe_str (nomark _)) (pss_one (ps_set (i := 4) sc_after_level.nd rfl (.inl rfl) (pe_op op_mod (pe_op op_add (pv 4) (pv 2)) pe_int))) pss_nil)
      (pss_one (ps_ret (pe_tup (pa_cons (pe_tup (pa_cons (pe_op op_add (pv 3) pe_int) (pa_cons (pv 4) (pa_cons (pv 5) (pa_cons (pv 6) pa_nil))))) (pa_cons pe_non pa_nil))))))) pss_nil)
      (pss_cons (ps_if (pt_cmpR op_eq (pv 2) pe_int (nomark _)) (pss_one (ps_ret (pe_tup (pa_cons (pe_tup (pa_cons (pe_glob rfl T.m_WAITING T.r_WAITING) (pa_cons pe_int (pa_cons pe_int (pa_cons pe_bl pa_nil))))) (pa_cons (pe_ifExp (pt_val (pv 6)) pe_str pe_str) pa_nil))))) pss_nil)
      (pss_cons (ps_if (pt_cmpR op_lt (pe_op op_add (pv 3) pe_int) (pcl C_frame_size hr (pa_cons (pv 0) pa_nil)) (nomark _)) (pss_one (ps_ret (pe_tup (pa_cons (pe_tup (pa_cons (pe_op op_add (pv 3) pe_int) (pa_cons (pv 4) (pa_cons (pv 5) (pa_cons (pv 6) pa_nil))))) (pa_cons pe_non pa_nil))))) pss_nil)
      (pss_one (ps_ret (pe_tup (pa_cons (pe_glob rfl T.m_IDLE T.r_IDLE) (pa_cons (pe_ifExp (PW.pt (pw_or (pt_cmpR op_eq (pe_ix ix_tup (pv 0) pe_int (fun _ _ => rfl)) pe_str (nomark _)) (pw_or1 (pt_cmpR op_eq (pv 4) (pe_callTy call_int1 rfl B.int PyProof.Rows.boot_int (pa_cons (pe_cmpR op_eq (pe_ix ix_tup (pv 0) pe_int (fun _ _ => rfl)) pe_str (nomark _)) pa_nil)) (nomark _))))) pe_str pe_str) pa_nil))))))))))), ?_⟩
    refine ⟨_, rfl, qs, _, rfl, Sq, rfl, _, _, rfl, _, _, rfl, _, _, rfl, _, _, rfl, rfl, ?_⟩
    -- if place == WAITING
    refine ⟨_, rfl, rfl, _, rfl, ifI (fun h1 => ?_) fun h1 => ?_⟩
    · refine ⟨_, rfl, rfl, _, rfl, ifI (fun h2 => ?_) fun h2 => ?_⟩
      · have ea : aft h st l = (idl, none) := by unfold aft; rw [if_pos h1, if_pos h2]
        rw [ea] at q
        exact one_tup q (Ex.refl _) (T.qI _)
      · have ea : aft h st l = (st, none) := by unfold aft; rw [if_pos h1, if_neg h2]
        rw [ea] at q
        exact ⟨_, rfl, one_tup q (Ex.refl _) Sq⟩
    -- if place == 0
    refine ⟨_, rfl, rfl, _, rfl, ifI (fun h2 => ?_) fun h2 => ?_⟩
    · refine ⟨_, rfl, rfl, _, rfl, ifI (fun h3 => ?_) fun h3 => ?_⟩
      · have ea : aft h st l = (⟨1, 0, 0, true⟩, none) := by unfold aft; rw [if_neg h1, if_pos h2, if_pos h3]
        rw [ea] at q
        exact ⟨by show 4 ≤ sizeLine; decide, fun q2 hq2 => two_tup q (Ex.refl _) q2 hq2⟩
      · have ea : aft h st l = (idl, none) := by unfold aft; rw [if_neg h1, if_pos h2, if_neg h3]
        rw [ea] at q
        exact one_tup q (Ex.refl _) (T.qI _)
    -- is_empty = is_empty and level == 0
    refine q_asg (v := .bl (st.em && decide (V.int l = V.int 0))) (ev_andV (ev_var (i := 6) rfl) fun _ => ev_op (ev_var (i := 2) rfl) ev_c (rv_eq rfl)) fun H1 e1 => ?_
    rw [dec_i]
    -- if place < first_stop(shape)
    refine ⟨_, rfl, _, rfl, t, h, rfl, S.ex e1, fun H2 e2' => ⟨_, _, rfl, rfl, _, rfl, ifD (fun h3 => ?_) fun h3 => ?_⟩⟩
    · have e2 := e1.trans e2'
      refine ⟨_, rfl, _, rfl, t, _, 0, _, rfl, rfl, (S.ex e2).q, rfl, _, _, rfl, rfl, _, rfl, ifD (fun h4 => ?_) fun h4 => ?_⟩
      · refine ⟨_, rfl, _, rfl, _, rfl, _, _, rfl, rfl, _, _, rfl, rfl, ⟨by omega, by omega, by omega⟩, _, _, rfl, rfl, ?_⟩
        refine ⟨_, rfl, t, _, 1, _, rfl, rfl, (S.ex e2).q, rfl, scal_p _ _, _, rfl, ifNP (fun h5 => ?_) fun h5 => ?_⟩
        · have ea : aft h st l = (⟨st.pl + 1, (st.on + l) % 2, st.nu + l * 2 ^ (st.pl - 1).toNat, st.em && decide (l = 0)⟩, none) := by
            unfold aft; rw [if_neg h1, if_neg h2, if_pos h3, if_neg h5, if_pos h4]
          rw [ea] at q
          refine ⟨_, rfl, _, rfl, _, _, rfl, rfl, _, _, rfl, rfl, (by show (0 : Int) < 2; decide), ?_⟩
          exact ⟨_, rfl, _, _, rfl, rfl, _, rfl, _, rfl, _, rfl, by show 4 ≤ sizeLine; decide, fun q2 hq2 => two_tup q e2 q2 hq2⟩
        · have ea : aft h st l = (⟨st.pl + 1, st.on, st.nu + l * 2 ^ (st.pl - 1).toNat, st.em && decide (l = 0)⟩, none) := by
            unfold aft; rw [if_neg h1, if_neg h2, if_pos h3, if_pos h5, if_pos h4]
          rw [ea] at q
          exact ⟨_, rfl, _, _, rfl, rfl, _, rfl, _, rfl, _, rfl, by show 4 ≤ sizeLine; decide, fun q2 hq2 => two_tup q e2 q2 hq2⟩
      · refine ⟨_, rfl, t, _, 1, _, rfl, rfl, (S.ex e2).q, rfl, scal_p _ _, _, rfl, ifNP (fun h5 => ?_) fun h5 => ?_⟩
        · have ea : aft h st l = (⟨st.pl + 1, (st.on + l) % 2, st.nu, st.em && decide (l = 0)⟩, none) := by
            unfold aft; rw [if_neg h1, if_neg h2, if_pos h3, if_neg h5, if_neg h4]
          rw [ea] at q
          refine ⟨_, rfl, _, rfl, _, _, rfl, rfl, _, _, rfl, rfl, (by show (0 : Int) < 2; decide), ?_⟩
          exact ⟨_, rfl, _, _, rfl, rfl, _, rfl, _, rfl, _, rfl, by show 4 ≤ sizeLine; decide, fun q2 hq2 => two_tup q e2 q2 hq2⟩
        · have ea : aft h st l = (⟨st.pl + 1, st.on, st.nu, st.em && decide (l = 0)⟩, none) := by
            unfold aft; rw [if_neg h1, if_neg h2, if_pos h3, if_pos h5, if_neg h4]
          rw [ea] at q
          exact ⟨_, rfl, _, _, rfl, rfl, _, rfl, _, rfl, _, rfl, by show 4 ≤ sizeLine; decide, fun q2 hq2 => two_tup q e2 q2 hq2⟩
    · have e2 := e1.trans e2'
      -- if level == 0
      refine ⟨_, rfl, rfl, _, rfl, ifI (fun h4 => ?_) fun h4 => ?_⟩
      · have ea : aft h st l = (⟨-1, 0, 0, true⟩, some (if (st.em && decide (l = 0)) = true then .brk else .frame)) := by
          unfold aft; rw [if_neg h1, if_neg h2, if_neg h3, if_pos h4]
        rw [ea] at q
        refine ⟨by show 4 ≤ sizeLine; decide, fun q2 hq2 => ⟨_, rfl, _, rfl, ?_⟩⟩
        cases hem : (st.em && decide (l = 0)) with
        | true =>
          rw [hem, if_pos rfl] at q
          exact ify rfl (two_tup q e2 q2 hq2)
        | false =>
          rw [hem, if_neg Bool.false_ne_true] at q
          exact ifn rfl (two_tup q e2 q2 hq2)
      · -- if place + 1 < frame_size(shape)
        refine ⟨_, rfl, _, _, rfl, rfl, _, rfl, t, h, rfl, S.ex e2, fun H3 e3' => ⟨_, _, rfl, rfl, _, rfl, ifD (fun h5 => ?_) fun h5 => ?_⟩⟩
        · have e3 := e2.trans e3'
          have ea : aft h st l = (⟨st.pl + 1, st.on, st.nu, st.em && decide (l = 0)⟩, none) := by
            unfold aft; rw [if_neg h1, if_neg h2, if_neg h3, if_neg h4, if_pos h5]
          rw [ea] at q
          exact ⟨_, rfl, _, _, rfl, rfl, _, rfl, _, rfl, _, rfl, by show 4 ≤ sizeLine; decide, fun q2 hq2 => two_tup q e3 q2 hq2⟩
        · have e3 := e2.trans e3'
          have ea : aft h st l = (idl, some (if h.p = .non ∨ st.on = oddBit h then .good else .parity)) := by
            unfold aft; rw [if_neg h1, if_neg h2, if_neg h3, if_neg h4, if_neg h5]
          rw [ea] at q
          refine ⟨_, rfl, t, _, 1, _, rfl, rfl, (S.ex e3).q, rfl, scal_p _ _, _, rfl, ifP (fun h6 => ?_) fun h6 => ?_⟩
          · rw [if_pos (.inl h6)] at q
            exact ify rfl (one_tup q e3 (T.qI _))
          · refine ⟨_, rfl, _, rfl, t, _, 1, _, rfl, rfl, (S.ex e3).q, rfl, scal_p _ _, .inr ⟨_, rfl, rfl, _, rfl, ?_⟩⟩
            have eo : (if decide (V.str h.p.str = V.str "odd") = true then (1 : Int) else 0) = oddBit h := by
              rw [p_odd]
              unfold oddBit
              by_cases ho : h.p = .odd
              · rw [if_pos ho, if_pos (decide_eq_true ho)]
              · rw [if_neg ho, if_neg (by rw [decide_eq_false ho]; decide)]
            rw [eo]
            refine ifI (fun h7 => ?_) fun h7 => ?_
            · rw [if_pos (.inr h7)] at q
              exact one_tup q e3 (T.qI _)
            · rw [if_neg (fun z => z.elim h6 h7)] at q
              exact one_tup q e3 (T.qI _)
end
end Sb

namespace Sb
open PySem PySem.Spec PyProof.Rows L2 Evl
section
variable {P : Program} {w : World} {K : PySem.W.Frag} {mg : PySem.Str → Option Value} {base : Heap} {k : Nat} {aP aI : Addr} {t1 t2 t3 : Tok}
theorem q_callG {σ : L2.St} {H : Hp} {D : Ends} {sp : Sp} {dvs vs : List V} {E : XK} {ta : TA} {g : TG} {tz : TS} (h : EvA ta σ H vs) (q : ∀ H1, Ex H H1 → sp (vs ++ dvs) H1 (fun x H2 => g x σ H2 (tz D)) E) : tSeq (tAsg (tCall sp dvs E ta) g) tz D σ H := h H (Ex.refl H) _ q
theorem sqt_upd {H : Hp} {p q : Addr} {ys xs : List V} {o : HO} (hp : H p = some (.lst ys)) (h : SqT K H q xs) : SqT K (upd H p o) q xs := by
  rcases h with (h | ⟨ob, h⟩) | h
  · exact .inl (.inl (by rw [upd_ne (ne_of h hp (fun z => nomatch z))]; exact h))
  · exact .inl (.inr ⟨ob, by rw [upd_ne (ne_of h hp (fun z => nomatch z))]; exact h⟩)
  · exact .inr h
theorem RdT.ex {H H' : Hp} (e : Ex H H') : ∀ {rs : List Addr} {xs : List (Int × Wd × Int)}, RdT H rs xs → RdT H' rs xs
  | [], [], _ => trivial
  | [], _ :: _, h => h.elim
  | _ :: _, [], h => h.elim
  | _ :: _, _ :: _, h => ⟨e _ _ h.1, RdT.ex e h.2⟩
theorem RdT.upd {H : Hp} {p : Addr} {ys : List V} {o : HO} (hp : H p = some (.lst ys)) : ∀ {rs : List Addr} {xs : List (Int × Wd × Int)}, RdT H rs xs → RdT (L2.upd H p o) rs xs
  | [], [], _ => trivial
  | [], _ :: _, h => h.elim
  | _ :: _, [], h => h.elim
  | _ :: _, _ :: _, h => ⟨by rw [upd_ne (ne_of h.1 hp (fun z => nomatch z))]; exact h.1, RdT.upd hp h.2⟩
theorem RdT.snoc {H : Hp} {r : Addr} {x : Int × Wd × Int} (hr : H r = some (.tup (rdV x))) : ∀ {rs : List Addr} {xs : List (Int × Wd × Int)}, RdT H rs xs → RdT H (rs ++ [r]) (xs ++ [x])
  | [], [], _ => ⟨hr, trivial⟩
  | [], _ :: _, h => h.elim
  | _ :: _, [], h => h.elim
  | _ :: _, _ :: _, h => ⟨h.1, RdT.snoc hr h.2⟩
theorem runL_take (h : Shp) (r : Rns) (ls : List Int) {i : Nat} {l : Int} (e : ls[i]? = some l) : runL h r (ls.take (i + 1)) = rstep h (runL h r (ls.take i)) l := by
  rw [List.take_add_one, e, runL_app]
  rfl
theorem ok_readings_of {f : Addr} {fd : FuncData} (F : Fun K "readings_of" "readings_of" s_readings_of f fd) (B : Bi mg) (T : Tc K mg aP aI t1 t2 t3) (C_after_level : Cal P w K mg base k "after_level" ["shape", "state", "level"] [] (sp_after_level K)) (C_frame_size : Cal P w K mg base k "frame_size" ["shape"] [] sp_frame_size) :
    FnOk P w K mg base CX0 (k + 1) f fd ["shape", "levels", "begin"] sp_readings_of := by
  refine F.ok sc_readings_of (fun vs H Q E h => ?_) (fun cdv A outer s H vs Q E hr h => ?_)
  · obtain ⟨t, h, l, ls, rfl, _⟩ := h; rfl
  · obtain ⟨t, h, l, ls, rfl, S, ok, hl, hls, h8, q⟩ := h
    have hsz := size_le ok
    -- 0:shape 1:levels 2:begin 3:found 4:state 5:start 6:index 7:former 8:word
    refine ⟨_, pss_cons (ps_par3 (i := 3) (j := 4) (l := 5) rfl sc_readings_of.nd rfl rfl rfl (by decide) (by decide) (by decide) rfl rfl rfl (pa_cons (pe_lst pa_nil) (pa_cons (pe_glob rfl T.m_IDLE T.r_IDLE) (pa_cons (pv 2) pa_nil))) (by rfl))
      (pss_cons (ps_for PassesOwn.never rfl (pi_range2 rfl B.range (pa_cons (pv 2) (pa_cons (pe_op op_add (pe_callB call_len_seq rfl B.len PySem.boot_len (pa_cons (pv 1) pa_nil)) (pcl C_frame_size hr (pa_cons (pv 0) pa_nil))) pa_nil))) (pg_name (i := 6) sc_readings_of.nd rfl (.inl rfl)) (pss_cons (ps_set (i := 7) sc_readings_of.nd rfl (.inl rfl) (pv 4))
      (pss_cons (ps_asg (pcl C_after_level hr (pa_cons (pv 0) (pa_cons (pv 4) (pa_cons (pe_ifExp (pt_cmpR op_lt (pv 6) (pe_callB call_len_seq rfl B.len PySem.boot_len (pa_cons (pv 1) pa_nil)) (nomark _)) (pe_ix ix_list (pv 1) (pv 6) (fun _ _ => rfl)) pe_int) pa_nil)))) (pg_tup rfl (pgs_cons (pg_name (i := 4) sc_readings_of.nd rfl (.inl rfl)) (pgs_cons (pg_name (i := 8) sc_readings_of.nd rfl (.inl rfl)) pgs_nil))))
      (pss_cons (ps_if (pt_cmpR op_eq (pe_ix ix_tup (pv 7) pe_int (fun _ _ => rfl)) pe_int (nomark _)) (pss_one (ps_set (i := 5) sc_readings_of.nd rfl (.inl rfl) (pv 6))) pss_nil)
      (pss_one (ps_if (pt_cmpR op_notN (pv 8) pe_non (nomark _)) (pss_one (ps_expr (pe_bm PySem.F.plainAttrs_list PySem.F.slot_list_append PySem.F.type_list_append mt_append (pv 3) (pa_cons (pe_tup (pa_cons (pv 5) (pa_cons (pv 8) (pa_cons (pe_ix ix_tup (pv 7) pe_int (fun _ _ => rfl)) pa_nil)))) pa_nil)))) pss_nil))))))
      (pss_one (ps_ret (pv 3)))), ?_⟩
    refine ⟨Nat.zero_le _, fun fo hfo => ⟨_, rfl, _, _, _, rfl, ?_⟩⟩
    have e0 : Ex H (upd H fo (.lst [])) := Ex.new hfo
    refine ⟨_, rfl, _, rfl, l, _, rfl, .inl (SqL.of (e0 _ _ hl)), _, rfl, t, h, rfl, S.ex e0, fun H1 e1' => ?_⟩
    have e1 := e0.trans e1'
    have hlen : (((iv ls).length : Int) + (h.size : Int) - 0).toNat = (ls ++ List.replicate h.size 1).length := by
      rw [iv_len, List.length_append, List.length_replicate]; omega
    refine ⟨_, _, rfl, rfl, 0, _, rfl, ⟨by decide, by decide, by rw [iv_len]; omega, by rw [iv_len]; omega⟩, ?_⟩
    refine for_range (lo := 0) (fun i σ H' => ∃ q rs v6 v7 v8, σ = [some (.ref t), some (.ref l), some (.int 0), some (.ref fo), some (.ref q), some (.int (runL h rns0 ((ls ++ List.replicate h.size 1).take i)).start), v6, v7, v8] ∧ Ex H H' ∧ H' fo = some (.lst (rs.map V.ref)) ∧
      RdT H' rs (runL h rns0 ((ls ++ List.replicate h.size 1).take i)).found ∧ SqT K H' q (sttV (runL h rns0 ((ls ++ List.replicate h.size 1).take i)).st) ∧ rs.length ≤ i) ?_ ?_ ?_
    · exact ⟨aI, [], none, none, none, rfl, e1, e1' _ _ upd_same, trivial, T.qI _, Nat.le_refl _⟩
    · rintro i σ H2 hi ⟨q0, rs, v6, v7, v8, rfl, e2, hf2, hr2, hq2, hrs⟩
      rw [hlen] at hi
      obtain ⟨li, hli⟩ : ∃ li, (ls ++ List.replicate h.size 1)[i]? = some li := ⟨_, List.getElem?_eq_getElem hi⟩
      have hl01 : li = 0 ∨ li = 1 := by
        rcases List.mem_append.mp (List.mem_of_getElem? hli) with m | m
        · exact hls li m
        · exact .inr (List.eq_of_mem_replicate m)
      have RO := runL_ok ok ((ls ++ List.replicate h.size 1).take i) (rns0_ok ok)
      have hix := runL_idx h ((ls ++ List.replicate h.size 1).take i) rns0
      have hix2 : (runL h rns0 ((ls ++ List.replicate h.size 1).take i)).idx = i := by
        rw [hix, List.length_take, Nat.min_eq_left (Nat.le_of_lt hi)]
        exact Int.zero_add _
      rw [runL_take h rns0 _ hli]
      generalize runL h rns0 ((ls ++ List.replicate h.size 1).take i) = r at *
      have e00 : (0 : Int) + (i : Int) = (i : Int) := Int.zero_add _
      rw [e00]
      -- former = state
      refine ⟨_, rfl, ?_⟩
      -- state, word = after_level(shape, state, levels[index] if index < len(levels) else 1)
      have hev : EvA (tCons (tVar 0) (tCons (tVar 4) (tCons (tIf (tTest (tOp (rI0 fun i j => .bl (decide (i < j))) (tVar 6) (tCB (rLenS K) (tCons (tVar 1) tNil)))) (tOp (rIxL K) (tVar 1) (tVar 6)) (tC (.int 1))) tNil)))
          [some (.ref t), some (.ref l), some (.int 0), some (.ref fo), some (.ref q0), some (.int r.start), some (.int (i : Int)), some (.ref q0), v8] H2 [.ref t, .ref q0, .int li] := by
        refine ea_cons (ev_var rfl) (ea_cons (ev_var rfl) (ea_cons (ev_if (b := decide ((i : Int) < ((iv ls).length : Int))) (et_test (ev_op (ev_var rfl) (ev_len (ev_var rfl) (SqL.of (e2 _ _ hl))) rv_I0)) (fun hb => ?_) fun hb => ?_) ea_nil))
        · have hb := of_decide_eq_true hb
          rw [iv_len] at hb
          have hli2 : ls[i]? = some li := by rw [List.getElem?_append_left (by omega)] at hli; exact hli
          exact ev_op (ev_var rfl) (ev_var rfl) (rv_ixL (SqL.of (e2 _ _ hl)) (atI_nat (iv_get hli2)))
        · have hb := of_decide_eq_false hb
          rw [iv_len] at hb
          rw [List.getElem?_append_right (by omega)] at hli
          have : li = 1 := List.eq_of_mem_replicate (List.mem_of_getElem? hli)
          rw [this]
          exact ev_c
      show tSeq _ _ _ _ _
      refine q_callG hev fun H3 e3' => ?_
      have e3 := e2.trans e3'
      refine ⟨t, h, q0, r.st, li, rfl, S.ex e3, ok, ex_t e3' hq2, RO.lo, hl01, fun rr q4 H4 e4' hrr hq4 => ?_⟩
      have e4 := e3.trans e4'
      have e24 := e3'.trans e4'
      refine ⟨rr, _, rfl, hrr, rfl, _, _, rfl, _, _, rfl, rfl, ?_⟩
      -- if former[0] == 0: start = index
      refine q_ifAsg (i := 5) (v := .int (if r.st.pl = 0 then r.idx else r.start)) (b := decide (V.int r.st.pl = V.int 0)) (et_test (ev_op (ev_op (ev_var (i := 7) rfl) ev_c (rv_ixT (i := 0) (ex_t e24 hq2) rfl)) ev_c (rv_eq rfl))) (fun hb => ?_) (fun hb => ?_) fun H5 e5' => ?_
      · rw [dec_i] at hb
        rw [if_pos (of_decide_eq_true hb), hix2]
        exact ev_var rfl
      · rw [dec_i] at hb
        rw [if_neg (of_decide_eq_false hb)]
        rfl
      · have e5 := e4.trans e5'
        have e25 := e24.trans e5'
        have hf5 := e25 _ _ hf2
        -- if word is not None: found.append(..)
        refine ⟨_, rfl, rfl, _, rfl, ?_⟩
        cases hw : (aft h r.st li).2 with
        | none =>
          refine ifn rfl ?_
          refine ⟨q4, rs, _, _, _, rfl, e5, hf5, ?_, ex_t e5' hq4, by omega⟩
          have : (rstep h r li).found = r.found := by
            show (match (aft h r.st li).2 with | none => r.found | some w => r.found ++ [(if r.st.pl = 0 then r.idx else r.start, w, r.st.nu)]) = r.found
            rw [hw]
          rw [this]
          exact hr2.ex e25
        | some wd =>
          refine ify (by cases wd <;> rfl) ?_
          refine ⟨_, rfl, .inl ⟨rfl, _, SqL.of hf5⟩, _, rfl, _, rfl, _, rfl, q0, _, 2, _, rfl, rfl, ex_t e25 hq2, rfl, by show 3 ≤ sizeLine; decide, fun T6 hT6 => ?_⟩
          have e6 := Ex.new (o := .tup [.int (if r.st.pl = 0 then r.idx else r.start), wdV (some wd), .int r.st.nu]) hT6
          have hf6 := e6 _ _ hf5
          refine ⟨fo, _, _, rfl, rfl, hf6, by rw [List.length_map]; exact small1000 (by rw [List.length_append, List.length_replicate] at hi; omega), ?_⟩
          have : (rstep h r li).found = r.found ++ [(if r.st.pl = 0 then r.idx else r.start, wd, r.st.nu)] := by
            show (match (aft h r.st li).2 with | none => r.found | some w => r.found ++ [(if r.st.pl = 0 then r.idx else r.start, w, r.st.nu)]) = _
            rw [hw]
          refine ⟨q4, rs ++ [T6], _, _, _, rfl, Ex.mut (e5.trans e6) hfo, ?_, ?_, sqt_upd hf6 (ex_t (e5'.trans e6) hq4), ?_⟩
          · rw [upd_same, List.map_append]; rfl
          · rw [this]
            exact (RdT.snoc (x := (if r.st.pl = 0 then r.idx else r.start, wd, r.st.nu)) upd_same (hr2.ex (e25.trans e6))).upd hf6
          · rw [List.length_append]; show rs.length + 1 ≤ i + 1; omega
    · rintro σ H2 ⟨q0, rs, v6, v7, v8, rfl, e2, hf2, hr2, hq2, hrs⟩
      rw [hlen, List.take_length] at hr2
      exact ⟨_, rfl, q fo rs H2 hfo e2 hf2 hr2⟩
end
end Sb

namespace Sb
open PySem PySem.Spec PyProof.Rows L2 Evl
section
variable {P : Program} {w : World} {K : PySem.W.Frag} {mg : PySem.Str → Option Value} {base : Heap} {k : Nat} {aP aI : Addr} {t1 t2 t3 : Tok}
theorem ok_parsed {f : Addr} {fd : FuncData} (F : Fun K "parsed" "parsed" s_parsed f fd) (B : Bi mg) (C_require_shape : Cal P w K mg base k "require_shape" ["shape"] [] sp_require_shape) (C_require_levels : Cal P w K mg base k "require_levels" ["levels"] [] sp_require_levels)
    (C_is_integer : Cal P w K mg base k "is_integer" ["value"] [] sp_is_integer) (C_readings_of : Cal P w K mg base k "readings_of" ["shape", "levels", "begin"] [] sp_readings_of) : FnOk P w K mg base CX0 (k + 1) f fd ["shape", "levels", "begin"] sp_readings_of := by
  refine F.ok sc_parsed (fun vs H Q E h => ?_) (fun cdv A outer s H vs Q E hr h => ?_)
  · obtain ⟨t, h, l, ls, rfl, _⟩ := h; rfl
  · obtain ⟨t, h, l, ls, rfl, S, ok, hl, hls, h8, q⟩ := h
    -- 0:shape 1:levels 2:begin
    refine ⟨_, pss_cons (ps_expr (pcl C_require_shape hr (pa_cons (pv 0) pa_nil)))
      (pss_cons (ps_expr (pcl C_require_levels hr (pa_cons (pv 1) pa_nil)))
      (pss_cons (ps_if (PW.pt (pw_or (pt_not (pt_val (pcl C_is_integer hr (pa_cons (pv 2) pa_nil)))) (pw_or1 (pt_not (pt_chain op_le op_le pe_int (pv 2) (pe_callB call_len_seq rfl B.len PySem.boot_len (pa_cons (pv 1) pa_nil))))))) (pss_one ps_never) pss_nil)
      (pss_one (ps_ret (pcl C_readings_of hr (pa_cons (pv 0) (pa_cons (pv 1) (pa_cons (pv 2) pa_nil)))))))), ?_⟩
    refine ⟨_, rfl, t, h, rfl, S, ok, fun H1 e1 => ?_⟩
    refine ⟨_, rfl, l, ls, rfl, e1 _ _ hl, hls, h8, fun H2 e2' => ?_⟩
    have e2 := e1.trans e2'
    refine ⟨_, rfl, 0, rfl, fun H3 e3' => ⟨_, rfl, iteF ?_⟩⟩
    have e3 := e2.trans e3'
    refine ⟨_, rfl, _, _, rfl, rfl, _, rfl, ify (decide_eq_true (Int.le_refl 0)) ⟨_, rfl, l, _, rfl, .inl (SqL.of (e3 _ _ hl)), _, _, rfl, rfl, _, rfl, ifn (by
      rw [decide_eq_true (show (0 : Int) ≤ ((iv ls).length : Int) by omega)]; rfl) ?_⟩⟩
    exact ⟨_, rfl, _, rfl, _, rfl, t, h, l, ls, rfl, S.ex e3, ok, e3 _ _ hl, hls, h8, fun p rs H4 hp e4 h4 r4 => q p rs H4 (fresh_back e3 hp) (e3.trans e4) h4 r4⟩
theorem frm01 (h : Shp) (n : Int) : ∀ x ∈ frm h n, x = 0 ∨ x = 1 := by
  intro x hx
  unfold frm at hx
  rcases List.mem_append.mp hx with hx | hx
  · rcases List.mem_append.mp hx with hx | hx
    · rcases List.mem_cons.mp hx with hx | hx
      · exact .inl hx
      · unfold bitsOf at hx
        obtain ⟨i, _, rfl⟩ := List.mem_map.mp hx
        generalize n / 2 ^ i = m
        show m % 2 = 0 ∨ m % 2 = 1
        omega
    · unfold parLs at hx
      split at hx
      · cases hx
      · rw [List.mem_singleton.mp hx]
        unfold parL
        generalize (bitsOf h.b n).sum + oddBit h = m
        show m % 2 = 0 ∨ m % 2 = 1
        omega
  · exact .inr (List.eq_of_mem_replicate hx)
theorem sta_take (h : Shp) (t : Stt) (ls : List Int) {i : Nat} {l : Int} (e : ls[i]? = some l) : sta h t (ls.take (i + 1)) = (aft h (sta h t (ls.take i)) l).1 := by
  rw [List.take_add_one, e, sta_app]
  rfl
theorem ok_state_after {f : Addr} {fd : FuncData} (F : Fun K "state_after" "state_after" s_state_after f fd) (C_frame_levels : Cal P w K mg base k "frame_levels" ["shape", "number"] [] sp_frame_levels) (C_after_level : Cal P w K mg base k "after_level" ["shape", "state", "level"] [] (sp_after_level K)) :
    FnOk P w K mg base CX0 (k + 1) f fd ["shape", "state", "number"] (sp_state_after K) := by
  refine F.ok sc_state_after (fun vs H Q E h => ?_) (fun cdv A outer s H vs Q E hr h => ?_)
  · obtain ⟨t, h, q, st, n, rfl, _⟩ := h; rfl
  · obtain ⟨t, h, qs, st, n, rfl, S, ok, hq, h0, h1, hn, q⟩ := h
    have hsz := size_le ok
    -- 0:shape 1:state 2:number 3:words 4:level 5:word
    refine ⟨_, pss_cons (ps_set (i := 3) sc_state_after.nd rfl (.inl rfl) (pe_lst pa_nil))
      (pss_cons (ps_for PassesOwn.never rfl (pi_list (pcl C_frame_levels hr (pa_cons (pv 0) (pa_cons (pv 2) pa_nil)))) (pg_name (i := 4) sc_state_after.nd rfl (.inl rfl)) (pss_cons (ps_asg (pcl C_after_level hr (pa_cons (pv 0) (pa_cons (pv 1) (pa_cons (pv 4) pa_nil)))) (pg_tup rfl (pgs_cons (pg_name (i := 1) sc_state_after.nd rfl (.inl rfl)) (pgs_cons (pg_name (i := 5) sc_state_after.nd rfl (.inl rfl)) pgs_nil))))
      (pss_one (ps_if (pt_cmpR op_notN (pv 5) pe_non (nomark _)) (pss_one (ps_expr (pe_bm PySem.F.plainAttrs_list PySem.F.slot_list_append PySem.F.type_list_append mt_append (pv 3) (pa_cons (pv 5) pa_nil)))) pss_nil))))
      (pss_one (ps_ret (pe_tup (pa_cons (pv 1) (pa_cons (pv 3) pa_nil)))))), ?_⟩
    refine ⟨Nat.zero_le _, fun wl hwl => ?_⟩
    have e0 : Ex H (upd H wl (.lst [])) := Ex.new hwl
    refine ⟨_, rfl, _, rfl, t, h, n, rfl, S.ex e0, ok, hn, fun p H1 hp e1' hx1 => ?_⟩
    have e1 := e0.trans e1'
    have npw : p ≠ wl := fun z => by rw [z, upd_same] at hp; cases hp
    refine ⟨p, rfl, ⟨_, SqL.of hx1⟩, for_list (xs := iv (frm h n)) (fun i σ H' => ∃ q ws v4 v5, σ = [some (.ref t), some (.ref q), some (.int n), some (.ref wl), v4, v5] ∧ Ex H H' ∧ H' p = some (.lst (iv (frm h n))) ∧ H' wl = some (.lst ws) ∧ ws.length ≤ i ∧ SqT K H' q (sttV (sta h st ((frm h n).take i)))) ?_ ?_ ?_ ?_⟩
    · exact ⟨qs, [], none, none, rfl, e1, hx1, e1' _ _ upd_same, Nat.le_refl _, ex_t e1 hq⟩
    · rintro i σ H2 _ ⟨_, _, _, _, _, _, h2, _⟩
      exact SqL.of h2
    · rintro i x σ H2 hx ⟨q2, ws, v4, v5, rfl, e2, hp2, hw2, hws, hq2⟩
      obtain ⟨li, hli, rfl⟩ := iv_at hx
      have rg : -1 ≤ (sta h st ((frm h n).take i)).pl := by
        rw [sta_pl]
        exact (nxts_rng ok _ (by omega) h1).1
      rw [sta_take h st _ hli]
      generalize sta h st ((frm h n).take i) = r at *
      have hlen : i < (frm h n).length := (List.getElem?_eq_some_iff.mp hli).1
      rw [frm_len] at hlen
      refine ⟨_, rfl, _, rfl, _, rfl, t, h, q2, r, li, rfl, S.ex e2, ok, hq2, rg, frm01 h n li (List.mem_of_getElem? hli), fun rr q4 H4 e4' hrr hq4 => ?_⟩
      have e4 := e2.trans e4'
      refine ⟨rr, _, rfl, hrr, rfl, _, _, rfl, _, _, rfl, rfl, ?_⟩
      have hp4 := e4' _ _ hp2
      have hw4 := e4' _ _ hw2
      refine ⟨_, rfl, rfl, _, rfl, ?_⟩
      cases hwd : (aft h r li).2 with
      | none =>
        refine ifn rfl ?_
        exact ⟨q4, ws, _, _, rfl, e4, hp4, hw4, by omega, hq4⟩
      | some wd =>
        refine ify (by cases wd <;> rfl) ?_
        refine ⟨_, rfl, .inl ⟨rfl, _, SqL.of hw4⟩, _, rfl, wl, _, _, rfl, rfl, hw4, small1000 (by omega), ?_⟩
        refine ⟨q4, _, _, _, rfl, Ex.mut e4 hwl, ?_, upd_same, ?_, sqt_upd hw4 hq4⟩
        · rw [upd_ne npw]; exact hp4
        · rw [List.length_append]; show ws.length + 1 ≤ i + 1; omega
    · rintro σ H2 ⟨q2, ws, v4, v5, rfl, e2, hp2, hw2, hws, hq2⟩
      rw [iv_len, List.take_length] at hq2
      refine ⟨_, rfl, _, rfl, by show 2 ≤ sizeLine; decide, fun r hr => ?_⟩
      exact q r q2 wl _ (e2.trans (Ex.new hr)) (SqT.of upd_same) (ex_t (Ex.new hr) hq2)
theorem ok_next_place {f : Addr} {fd : FuncData} (F : Fun K "next_place" "next_place" s_next_place f fd) (C_state_after : Cal P w K mg base k "state_after" ["shape", "state", "number"] [] (sp_state_after K)) : FnOk P w K mg base CX0 (k + 1) f fd ["shape", "place", "number"] sp_next_place := by
  refine F.ok sc_next_place (fun vs H Q E h => ?_) (fun cdv A outer s H vs Q E hr h => ?_)
  · obtain ⟨t, h, p, n, rfl, _⟩ := h; rfl
  · obtain ⟨t, h, p, n, rfl, S, ok, h0, h1, hn, q⟩ := h
    -- 0:shape 1:place 2:number
    refine ⟨_, pss_one (ps_ret (pe_ix ix_tup (pe_ix ix_tup (pcl C_state_after hr (pa_cons (pv 0) (pa_cons (pe_tup (pa_cons (pv 1) (pa_cons pe_int (pa_cons pe_int (pa_cons (pe_cmpR op_eq (pv 1) pe_int (nomark _)) pa_nil))))) (pa_cons (pv 2) pa_nil)))) pe_int (fun _ _ => rfl)) pe_int (fun _ _ => rfl))), ?_⟩
    refine ⟨_, rfl, _, rfl, _, rfl, rfl, (by show 4 ≤ sizeLine; decide), fun st hst => ?_⟩
    have e0 := Ex.new (o := .tup [.int p, .int 0, .int 0, .bl (decide (V.int p = V.int 0))]) hst
    refine ⟨_, rfl, t, h, st, ⟨p, 0, 0, decide (V.int p = V.int 0)⟩, n, rfl, S.ex e0, ok, SqT.of upd_same, h0, h1, hn, fun r q' wl H1 e1' hr1 hq1 => ?_⟩
    refine ⟨r, _, 0, _, rfl, rfl, hr1, rfl, q', _, 0, _, rfl, rfl, hq1, rfl, ?_⟩
    refine qi (Q := Q) ?_ (q _ (e0.trans e1'))
    rw [sta_pl]
    rfl
theorem ok_require_place {f : Addr} {fd : FuncData} (F : Fun K "require_place" "require_place" s_require_place f fd) (C_is_integer : Cal P w K mg base k "is_integer" ["value"] [] sp_is_integer) (C_frame_size : Cal P w K mg base k "frame_size" ["shape"] [] sp_frame_size) : FnOk P w K mg base CX0 (k + 1) f fd ["shape", "place"] sp_require_place := by
  refine F.ok sc_require_place (fun vs H Q E h => ?_) (fun cdv A outer s H vs Q E hr h => ?_)
  · obtain ⟨t, h, p, rfl, _⟩ := h; rfl
  · obtain ⟨t, h, p, rfl, S, ok, h0, h1, q⟩ := h
    -- 0:shape 1:place
    refine ⟨_, pss_one (ps_if (PW.pt (pw_or (pt_not (pt_val (pcl C_is_integer hr (pa_cons (pv 1) pa_nil)))) (pw_or1 (pt_not (pt_chain op_le op_lt pe_int (pv 1) (pcl C_frame_size hr (pa_cons (pv 0) pa_nil))))))) (pss_one ps_never) pss_nil), ?_⟩
    refine ⟨_, rfl, p, rfl, fun H1 e1 => ⟨_, rfl, iteF ?_⟩⟩
    refine ⟨_, rfl, _, _, rfl, rfl, _, rfl, ify (decide_eq_true h0) ⟨_, rfl, t, h, rfl, S.ex e1, fun H2 e2 => ⟨_, _, rfl, rfl, _, rfl, ifn (by
      rw [decide_eq_true (show p < (h.size : Int) from h1)]; rfl) ?_⟩⟩⟩
    exact q _ (e1.trans e2)
theorem ok_places_along {f : Addr} {fd : FuncData} (F : Fun K "places_along" "places_along" s_places_along f fd) (C_require_shape : Cal P w K mg base k "require_shape" ["shape"] [] sp_require_shape) (C_require_place : Cal P w K mg base k "require_place" ["shape", "place"] [] sp_require_place)
    (C_require_text : Cal P w K mg base k "require_text" ["shape", "numbers", "least", "most"] [] sp_require_text) (C_next_place : Cal P w K mg base k "next_place" ["shape", "place", "number"] [] sp_next_place) : FnOk P w K mg base CX0 (k + 1) f fd ["shape", "place", "numbers"] sp_places_along := by
  refine F.ok sc_places_along (fun vs H Q E h => ?_) (fun cdv A outer s H vs Q E hr h => ?_)
  · obtain ⟨t, h, p, l, ns, rfl, _⟩ := h; rfl
  · obtain ⟨t, h, p, l, ns, rfl, S, ok, h0, h1, hl, hn, h6, q⟩ := h
    -- 0:shape 1:place 2:numbers 3:found 4:number
    refine ⟨_, pss_cons (ps_expr (pcl C_require_shape hr (pa_cons (pv 0) pa_nil)))
      (pss_cons (ps_expr (pcl C_require_place hr (pa_cons (pv 0) (pa_cons (pv 1) pa_nil))))
      (pss_cons (ps_expr (pcl C_require_text hr (pa_cons (pv 0) (pa_cons (pv 2) (pa_cons pe_int (pa_cons pe_int pa_nil))))))
      (pss_cons (ps_set (i := 3) sc_places_along.nd rfl (.inl rfl) (pe_lst (pa_cons (pv 1) pa_nil)))
      (pss_cons (ps_for PassesOwn.never rfl (pi_list (pv 2)) (pg_name (i := 4) sc_places_along.nd rfl (.inl rfl)) (pss_one (ps_expr (pe_bm PySem.F.plainAttrs_list PySem.F.slot_list_append PySem.F.type_list_append mt_append (pv 3) (pa_cons (pcl C_next_place hr (pa_cons (pv 0) (pa_cons (pe_ix ix_list (pv 3) (pe_un un_neg pe_int) (fun _ _ => rfl)) (pa_cons (pv 4) pa_nil)))) pa_nil)))))
      (pss_one (ps_ret (pv 3))))))), ?_⟩
    refine ⟨_, rfl, t, h, rfl, S, ok, fun H1 e1 => ?_⟩
    refine ⟨_, rfl, _, rfl, t, h, p, rfl, S.ex e1, ok, h0, h1, fun H2 e2' => ?_⟩
    have e2 := e1.trans e2'
    refine ⟨_, rfl, _, rfl, t, h, l, ns, 0, 60, rfl, S.ex e2, ok, e2 _ _ hl, hn, by omega, by omega, by omega, fun H3 e3' => ?_⟩
    have e3 := e2.trans e3'
    refine ⟨_, rfl, (by show 1 ≤ sizeLine; decide), fun fo hfo => ?_⟩
    have e4 := e3.trans (Ex.new (o := .lst [.int p]) hfo)
    have nfo := fresh_back e3 hfo
    refine ⟨_, rfl, l, rfl, ⟨_, SqL.of (e4 _ _ hl)⟩, for_list (xs := iv ns) (fun i σ H' => ∃ xs v4, σ = [some (.ref t), some (.int p), some (.ref l), some (.ref fo), v4] ∧ Ex H H' ∧ H' fo = some (.lst (iv (xs ++ [plAfter h p (ns.take i)]))) ∧ xs.length ≤ i) ?_ ?_ ?_ ?_⟩
    · exact ⟨[], none, rfl, e4, upd_same, Nat.le_refl _⟩
    · rintro i σ H5 _ ⟨_, _, _, e5, _⟩
      exact SqL.of (e5 _ _ hl)
    · rintro i x σ H5 hx ⟨xs, v4, rfl, e5, hf5, hxs⟩
      obtain ⟨n, hm, rfl⟩ := iv_at hx
      have hv := hn n (List.mem_of_getElem? hm)
      have hi : i < ns.length := (List.getElem?_eq_some_iff.mp hm).1
      have rg := pla_rng (dlt_dl ok) (ns.take i) h0 h1
      have epl : plAfter h p (ns.take (i + 1)) = dlt h n (plAfter h p (ns.take i)) := by
        unfold plAfter
        rw [List.take_add_one, hm, List.foldl_append]
        rfl
      refine ⟨_, rfl, .inl ⟨rfl, _, SqL.of hf5⟩, _, rfl, _, rfl, _, rfl, fo, _, _, _, rfl, rfl, SqL.of hf5, ?_, _, rfl, t, h, plAfter h p (ns.take i), n, rfl, S.ex e5, ok, rg.1, rg.2, hv.1, fun H6 e6' => ?_⟩
      · rw [iv_snoc]
        exact atI_last _ _
      · have hf6 := e6' _ _ hf5
        refine ⟨fo, _, _, rfl, rfl, hf6, ?_, xs ++ [plAfter h p (ns.take i)], _, rfl, Ex.mut (e5.trans e6') nfo, ?_, ?_⟩
        · rw [iv_len, List.length_append]
          exact small1000 (by show xs.length + 1 ≤ 1000; omega)
        · rw [upd_same, epl, iv_snoc (xs ++ [plAfter h p (ns.take i)])]
        · rw [List.length_append]; show xs.length + 1 ≤ i + 1; omega
    · rintro σ H5 ⟨xs, v4, rfl, e5, hf5, hxs⟩
      rw [iv_len, List.take_length] at hf5
      exact ⟨_, rfl, q fo xs H5 nfo e5 hf5⟩
theorem ok_place_behind {f : Addr} {fd : FuncData} (F : Fun K "place_behind" "place_behind" s_place_behind f fd) (C_places_along : Cal P w K mg base k "places_along" ["shape", "place", "numbers"] [] sp_places_along) : FnOk P w K mg base CX0 (k + 1) f fd ["shape", "place", "numbers"] sp_place_behind := by
  refine F.ok sc_place_behind (fun vs H Q E h => ?_) (fun cdv A outer s H vs Q E hr h => ?_)
  · obtain ⟨t, h, p, l, ns, rfl, _⟩ := h; rfl
  · obtain ⟨t, h, p, l, ns, rfl, S, ok, h0, h1, hl, hn, h6, q⟩ := h
    -- 0:shape 1:place 2:numbers
    refine ⟨_, pss_one (ps_ret (pe_ix ix_list (pcl C_places_along hr (pa_cons (pv 0) (pa_cons (pv 1) (pa_cons (pv 2) pa_nil)))) (pe_un un_neg pe_int) (fun _ _ => rfl))), ?_⟩
    refine ⟨_, rfl, _, rfl, _, rfl, t, h, p, l, ns, rfl, S, ok, h0, h1, hl, hn, h6, fun fo xs H1 hfo e1 hf1 => ?_⟩
    refine ⟨_, rfl, fo, _, _, _, rfl, rfl, SqL.of hf1, ?_, q _ e1⟩
    rw [iv_snoc]
    exact atI_last _ _
end
end Sb

namespace Sb
open PySem PySem.Spec PyProof.Rows L2 Evl
section
variable {P : Program} {w : World} {K : PySem.W.Frag} {mg : PySem.Str → Option Value} {base : Heap} {k : Nat} {aP aI : Addr} {t1 t2 t3 : Tok}
/-! ### the search's own sets and rows -/
theorem wipe1 (σ : L2.St) (i : Nat) (x : V) : wipe ((wipe σ [i]).set i (some x)) [i] = wipe σ [i] := by
  show ((σ.set i none).set i (some x)).set i none = σ.set i none
  rw [List.set_set, List.set_set]
theorem wipe_at (σ : L2.St) (i j : Nat) (x : V) (h : j ≠ i) : ((wipe σ [i]).set i (some x))[j]? = σ[j]? := by
  show ((σ.set i none).set i (some x))[j]? = σ[j]?
  rw [List.getElem?_set_ne h.symm, List.getElem?_set_ne h.symm]
theorem wipe_own (σ : L2.St) (i : Nat) (x : V) (h : i < σ.length) : ((wipe σ [i]).set i (some x))[i]? = some (some x) := by
  show ((σ.set i none).set i (some x))[i]? = some (some x)
  rw [List.getElem?_set_self (by rw [List.length_set]; exact h)]
def rowOf (h : Shp) (n : Int) : List Int := (upto h.size).map (dlt h n)
theorem row_at (h : Shp) (n : Int) {p : Int} (h0 : 0 ≤ p) (h1 : p < h.size) : atI (iv (rowOf h n)) p = some (.int (dlt h n p)) := by
  obtain ⟨j, rfl⟩ : ∃ j : Nat, p = (j : Int) := ⟨p.toNat, by omega⟩
  refine atI_nat (iv_get ?_)
  unfold rowOf upto
  rw [List.map_map, List.getElem?_map, List.getElem?_range (by omega)]
  rfl
/-- [next_place(shape, place, number) for place in range(frame_size(shape))] -/
theorem el_row {σ : L2.St} {H : Hp} {t : Addr} {h : Shp} {n : Int} (S : ShT H t h) (ok : h.Ok) (hn : 0 ≤ n) (hl : 11 < σ.length) (h0 : σ[0]? = some (some (.ref t))) (h3 : σ[3]? = some (some (.int n))) :
    EvL (tLc (iRng1 (tCons (tCall sp_frame_size [] E0 (tCons (tVar 0) tNil)) tNil)) (gName 11) tYes (tCall sp_next_place [] E0 (tCons (tVar 0) (tCons (tVar 11) (tCons (tVar 3) tNil)))) [11]) σ H (iv (rowOf h n)) := by
  have hsz := size_le ok
  have e := el_lcR1 (σ := σ) (H := H) (t := tYes) (j := 11) (vs := [11]) (te := tCall sp_next_place [] E0 (tCons (tVar 0) (tCons (tVar 11) (tCons (tVar 3) tNil)))) (n := (h.size : Int)) (f := fun _ => true) (v := fun i => .int (dlt h n (i : Int)))
    (ea_cons (ev_call (sp := sp_frame_size) (dvs := []) (E := E0) (z := .int (h.size : Int)) (ea_cons (ev_var h0) ea_nil) fun H1 e1 Q q E => ⟨t, h, rfl, S.ex e1, q⟩) ea_nil) ⟨by omega, by omega⟩ (wipe1 σ 11) (fun _ _ _ _ => et_yes)
    (fun i H1 e1 hi _ => ev_call (sp := sp_next_place) (dvs := []) (E := E0) (vs := [.ref t, .int (i : Int), .int n]) (ea_cons (ev_var (by rw [wipe_at _ _ _ _ (by decide)]; exact h0)) (ea_cons (ev_var (wipe_own _ _ _ hl)) (ea_cons (ev_var (by rw [wipe_at _ _ _ _ (by decide)]; exact h3)) ea_nil)))
      fun H2 e2 Q q E => ⟨t, h, (i : Int), n, rfl, S.ex (e1.trans e2), ok, by omega, hi, hn, q⟩)
  have q : given (h.size : Int).toNat (fun _ => true) (fun i => V.int (dlt h n (i : Int))) = iv (rowOf h n) := by
    unfold given iv rowOf upto
    rw [List.filter_eq_self.mpr (fun _ _ => rfl), List.map_map, List.map_map, Int.toNat_natCast]
    rfl
  rw [q] at e
  exact e
/-- what the maps are: each allowed number's row -/
def Rows (H : Hp) (h : Shp) (D : Addr) (al : List Int) : Prop := ∃ kvs, H D = some (.dK kvs) ∧ ∀ n ∈ al, ∃ r, valV kvs (.inl n) = some (.ref r) ∧ H r = some (.lst (iv (rowOf h n)))
theorem Rows.ex {H H' : Hp} {h : Shp} {D : Addr} {al : List Int} (e : Ex H H') (R : Rows H h D al) : Rows H' h D al := by
  obtain ⟨kvs, h1, h2⟩ := R
  exact ⟨kvs, e _ _ h1, fun n hn => let ⟨r, a, b⟩ := h2 n hn; ⟨r, a, e _ _ b⟩⟩
/-- maps[number][place] -/
theorem ev_mp {σ : L2.St} {H : Hp} {h : Shp} {D : Addr} {al : List Int} {n p : Int} (R : Rows H h D al) (hn : n ∈ al) (h4 : σ[4]? = some (some (.ref D))) (h3 : σ[3]? = some (some (.int n))) (h11 : σ[11]? = some (some (.int p))) (h0 : 0 ≤ p) (h1 : p < h.size) :
    Ev (tOp (rIxL K) (tDGet (tVar 4) (tVar 3)) (tVar 11)) σ H (.int (dlt h n p)) := fun H1 e Q q => by
  obtain ⟨kvs, hD, hr⟩ := R.ex e
  obtain ⟨r, a, b⟩ := hr n hn
  refine ⟨_, h4, _, h3, D, .ref r, rfl, ?_, _, h11, r, _, p, _, rfl, rfl, SqL.of b, row_at h n h0 h1, q H1 (Ex.refl H1)⟩
  rw [← a]
  exact DGet.k (k := .inl n) hD
theorem rg_first (N : Nat) : rgV 1 (N : Int) = iv (firstS N) := by
  have e : (List.range ((N : Int) - 1).toNat).map (fun (i : Nat) => (1 : Int) + (i : Int)) = firstS N := by
    refine rise_ext ?_ first_cs.rise fun k => ?_
    · rw [List.pairwise_map]
      exact List.pairwise_lt_range.imp fun h => by omega
    · rw [mem_first, List.mem_map]
      constructor
      · rintro ⟨i, hi, rfl⟩
        have := List.mem_range.mp hi
        omega
      · rintro ⟨a, b⟩
        exact ⟨(k - 1).toNat, List.mem_range.mpr (by omega), by omega⟩
  unfold rgV iv
  rw [← e, List.map_map]
  rfl
def rTup (K : PySem.W.Frag) : List V → Hp → VK → Prop := fun xs H Q => ∃ p ys, xs = [.ref p] ∧ ((SqL K H p ys ∧ ∀ l, H l = none → Q (.ref l) (upd H l (.tup ys))) ∨ (SqT K H p ys ∧ Q (.ref p) H))
/-- tuple(sorted({maps[number][place] for place in places if maps[number][place] > 0})) -/
theorem eu_later {σ : L2.St} {H : Hp} {h : Shp} {D a0 : Addr} {al P : List Int} {n : Int} (ok : h.Ok) (R : Rows H h D al) (hn : n ∈ al) (hl : 11 < σ.length) (h4 : σ[4]? = some (some (.ref D))) (h3 : σ[3]? = some (some (.int n))) (h8 : σ[8]? = some (some (.ref a0))) (hP : H a0 = some (.tup (iv P))) (C : Cs h.size P) :
    EvU (tCB (rTup K) (tCons (tCB (rSortedSet w) (tCons (tScI w (iTup K (tVar 8)) (gName 11) (tTest (tOp (rI0 fun i j => .bl (decide (j < i))) (tOp (rIxL K) (tDGet (tVar 4) (tVar 3)) (tVar 11)) (tC (.int 0)))) (tOp (rIxL K) (tDGet (tVar 4) (tVar 3)) (tVar 11)) [11]) tNil)) tNil)) σ H (iv (img h.size (dlt h) n P)) := fun H1 e Q q => by
  have DL := dlt_dl ok
  have hsz := size_le ok
  have hPlen : P.length ≤ 13 := by
    rw [← cs_count C]
    have := List.countP_le_length (p := fun k => decide (k ∈ P)) (l := upto h.size)
    rw [upto_len] at this
    omega
  refine ⟨_, h8, a0, rfl, ⟨_, SqT.of (e _ _ hP)⟩, fun Ds hDs => scI_tup (xs := iv P) (fun i H' => Ex H1 H' ∧ ∃ (S : Int → Bool) (m : Nat), H' Ds = some (SetO w Ds S m) ∧ m ≤ i ∧ ∀ j : Int, S j = true ↔ 0 < j ∧ ∃ p ∈ P.take i, dlt h n p = j) ?_ ?_ ?_ ?_⟩
  · exact ⟨Ex.new hDs, _, 0, upd_same, Nat.le_refl _, fun j => by simp⟩
  · rintro i H' _ ⟨e', _⟩
    exact SqT.of (e' _ _ (e _ _ hP))
  · rintro i x H' hx ⟨e', S, m, hS, hm, hj⟩
    obtain ⟨p, hp, rfl⟩ := iv_at hx
    have hrg := C.rng0 p (List.mem_of_getElem? hp)
    have hv : Ev (tOp (rIxL K) (tDGet (tVar 4) (tVar 3)) (tVar 11)) ((wipe σ [11]).set 11 (some (.int p))) H' (.int (dlt h n p)) :=
      ev_mp ((R.ex e).ex e') hn (by rw [wipe_at _ _ _ _ (by decide)]; exact h4) (by rw [wipe_at _ _ _ _ (by decide)]; exact h3) (wipe_own _ _ _ hl) hrg.1 hrg.2
    have htk : ∀ q, q ∈ P.take (i + 1) ↔ q ∈ P.take i ∨ q = p := fun q => by
      rw [List.take_add_one, hp, List.mem_append]
      simp
    refine ⟨wipe1 σ 11 _, ?_⟩
    refine hv H' (Ex.refl _) _ fun H2 e2 => ⟨_, _, rfl, rfl, _, rfl, ifD (fun hpos => ?_) fun hpos => ?_⟩
    · refine hv H2 e2 _ fun H3 e3 => ⟨_, S, m, rfl, (e2.trans e3) _ _ hS, by unfold scanBound; have := (List.getElem?_eq_some_iff.mp hp).1; omega, ?_⟩
      refine ⟨Ex.mut ((e'.trans e2).trans e3) hDs, _, _, upd_same, by split <;> omega, fun j => ?_⟩
      rw [Bool.or_eq_true, decide_eq_true_eq, hj]
      constructor
      · rintro (⟨a, q', b, c⟩ | rfl)
        · exact ⟨a, q', (htk q').mpr (.inl b), c⟩
        · exact ⟨hpos, p, (htk p).mpr (.inr rfl), rfl⟩
      · rintro ⟨a, q', b, c⟩
        rcases (htk q').mp b with b | rfl
        · exact .inl ⟨a, q', b, c⟩
        · exact .inr c.symm
    · refine ⟨e'.trans e2, S, m, e2 _ _ hS, by omega, fun j => ?_⟩
      rw [hj]
      constructor
      · rintro ⟨a, q', b, c⟩
        exact ⟨a, q', (htk q').mpr (.inl b), c⟩
      · rintro ⟨a, q', b, c⟩
        rcases (htk q').mp b with b | rfl
        · exact ⟨a, q', b, c⟩
        · omega
  · rintro H2 ⟨e2, S, m, hS, hm, hj⟩
    rw [iv_len] at hm
    rw [iv_len, List.take_length] at hj
    refine ⟨Ds, S, m, rfl, hS, by omega, fun ns p hrise hmem hlen hp => ?_⟩
    have ens : ns = img h.size (dlt h) n P := by
      refine rise_ext hrise (img_cs (N := h.size) (dl := dlt h) n P).rise fun j => ?_
      rw [hmem, hj, mem_img DL C.rng0]
    subst ens
    refine ⟨p, _, rfl, .inl ⟨SqL.of upd_same, fun l hl2 => ?_⟩⟩
    exact q l _ (fresh_back (e2.trans (Ex.new hp)) hl2) ((e2.trans (Ex.new hp)).trans (Ex.new hl2)) upd_same
end
end Sb

namespace Sb
open PySem PySem.Spec PyProof.Rows L2 Evl
section
variable {P : Program} {w : World} {K : PySem.W.Frag} {mg : PySem.Str → Option Value} {base : Heap} {k : Nat} {aP aI : Addr} {t1 t2 t3 : Tok}
/-! ### the queue -/
abbrev Ent := List Int × List Int
def qd (e : Ent) : PyData := .tuple [.tuple (e.1.map PyData.int), .list (e.2.map PyData.int)]
theorem can_ints : ∀ S : List Int, PyData.canLayAll0 (S.map PyData.int) = true
  | [] => by simp only [List.map_nil, PyData.canLayAll0]
  | x :: S => by simp only [List.map_cons, PyData.canLayAll0, PyData.canLay0, can_ints S]; rfl
theorem dep_ints : ∀ S : List Int, PyData.depthAll (S.map PyData.int) = 0
  | [] => by simp only [List.map_nil, PyData.depthAll]
  | x :: S => by simp only [List.map_cons, PyData.depthAll, PyData.depth, dep_ints S]; rfl
theorem can_q : ∀ L : List Ent, PyData.canLayAll0 (L.map qd) = true
  | [] => by simp only [List.map_nil, PyData.canLayAll0]
  | e :: L => by simp only [List.map_cons, PyData.canLayAll0, qd, PyData.canLay0, can_ints, can_q L]; rfl
theorem dep_q : ∀ L : List Ent, PyData.depthAll (L.map qd) ≤ 2
  | [] => by simp only [List.map_nil, PyData.depthAll]; omega
  | e :: L => by
    have := dep_q L
    simp only [List.map_cons, PyData.depthAll, qd, PyData.depth, dep_ints]
    omega
theorem shp_ints (S : List Int) : SeqAt.shaped (.list (S.map PyData.int)) = true ∧ SeqAt.shaped (.tuple (S.map PyData.int)) = true := by
  unfold SeqAt.shaped
  simp only [PyData.canLay0, PyData.depth, can_ints, dep_ints]
  decide
theorem shp_q (L : List Ent) : SeqAt.shaped (.list (L.map qd)) = true := by
  unfold SeqAt.shaped
  have := dep_q L
  simp only [PyData.canLay0, PyData.depth, can_q, Bool.true_and]
  exact decide_eq_true (by omega)
theorem dp_ints (H : Hp) : ∀ S : List Int, DpAll K H (iv S) (S.map PyData.int)
  | [] => .nil
  | _ :: S => .cons (.int _) (dp_ints H S)
theorem eqv_nil_l {ds : List PyData} : PyData.eqv (.list ds) (.list []) = ds.isEmpty := by
  cases ds <;> simp only [PyData.eqv, PyData.eqvAll, List.isEmpty]
theorem eqv_nil_t {ds : List PyData} : PyData.eqv (.tuple ds) (.tuple []) = ds.isEmpty := by
  cases ds <;> simp only [PyData.eqv, PyData.eqvAll, List.isEmpty]
def Qe (H : Hp) (wt q : Addr) (e : Ent) : Prop := ∃ a b, H q = some (.tup [.ref a, .ref b]) ∧ H a = some (.tup (iv e.1)) ∧ H b = some (.lst (iv e.2)) ∧ b ≠ wt
def QT (H : Hp) (wt : Addr) : List Addr → List Ent → Prop
  | [], [] => True
  | q :: qs, e :: L => Qe H wt q e ∧ QT H wt qs L
  | _, _ => False
theorem Qe.ex {H H' : Hp} {wt q : Addr} {e : Ent} (x : Ex H H') (h : Qe H wt q e) : Qe H' wt q e := let ⟨a, b, h1, h2, h3, h4⟩ := h; ⟨a, b, x _ _ h1, x _ _ h2, x _ _ h3, h4⟩
theorem QT.ex {H H' : Hp} {wt : Addr} (x : Ex H H') : ∀ {qs : List Addr} {L : List Ent}, QT H wt qs L → QT H' wt qs L
  | [], [], _ => trivial
  | [], _ :: _, h => h.elim
  | _ :: _, [], h => h.elim
  | _ :: _, _ :: _, h => ⟨h.1.ex x, QT.ex x h.2⟩
theorem Qe.updW {H : Hp} {wt q : Addr} {e : Ent} {ys : List V} {o : HO} (hw : H wt = some (.lst ys)) (h : Qe H wt q e) : Qe (upd H wt o) wt q e := by
  obtain ⟨a, b, h1, h2, h3, h4⟩ := h
  exact ⟨a, b, by rw [upd_ne (ne_of h1 hw (fun z => nomatch z))]; exact h1, by rw [upd_ne (ne_of h2 hw (fun z => nomatch z))]; exact h2, by rw [upd_ne h4]; exact h3, h4⟩
theorem QT.updW {H : Hp} {wt : Addr} {ys : List V} {o : HO} (hw : H wt = some (.lst ys)) : ∀ {qs : List Addr} {L : List Ent}, QT H wt qs L → QT (upd H wt o) wt qs L
  | [], [], _ => trivial
  | [], _ :: _, h => h.elim
  | _ :: _, [], h => h.elim
  | _ :: _, _ :: _, h => ⟨h.1.updW hw, QT.updW hw h.2⟩
theorem Qe.updS {H : Hp} {wt sd q : Addr} {e : Ent} {kvs : List (List L2.Key × V)} {o : HO} (hs : H sd = some (.dT kvs)) (h : Qe H wt q e) : Qe (upd H sd o) wt q e := by
  obtain ⟨a, b, h1, h2, h3, h4⟩ := h
  exact ⟨a, b, by rw [upd_ne (ne_of h1 hs (fun z => nomatch z))]; exact h1, by rw [upd_ne (ne_of h2 hs (fun z => nomatch z))]; exact h2, by rw [upd_ne (ne_of h3 hs (fun z => nomatch z))]; exact h3, h4⟩
theorem QT.updS {H : Hp} {wt sd : Addr} {kvs : List (List L2.Key × V)} {o : HO} (hs : H sd = some (.dT kvs)) : ∀ {qs : List Addr} {L : List Ent}, QT H wt qs L → QT (upd H sd o) wt qs L
  | [], [], _ => trivial
  | [], _ :: _, h => h.elim
  | _ :: _, [], h => h.elim
  | _ :: _, _ :: _, h => ⟨h.1.updS hs, QT.updS hs h.2⟩
theorem QT.snoc {H : Hp} {wt q : Addr} {e : Ent} (x : Qe H wt q e) : ∀ {qs : List Addr} {L : List Ent}, QT H wt qs L → QT H wt (qs ++ [q]) (L ++ [e])
  | [], [], _ => ⟨x, trivial⟩
  | [], _ :: _, h => h.elim
  | _ :: _, [], h => h.elim
  | _ :: _, _ :: _, h => ⟨h.1, QT.snoc x h.2⟩
theorem QT.dp {H : Hp} {wt : Addr} : ∀ {qs : List Addr} {L : List Ent}, QT H wt qs L → DpAll K H (qs.map V.ref) (L.map qd)
  | [], [], _ => .nil
  | [], _ :: _, h => h.elim
  | _ :: _, [], h => h.elim
  | _ :: _, _ :: _, h => by
    obtain ⟨⟨a, b, h1, h2, h3, _⟩, h⟩ := h
    exact .cons (.tup (SqT.of h1) (.cons (.tup (SqT.of h2) (dp_ints H _)) (.cons (.lst (SqL.of h3) (dp_ints H _)) .nil))) (QT.dp h)
theorem QT.len {H : Hp} {wt : Addr} : ∀ {qs : List Addr} {L : List Ent}, QT H wt qs L → qs.length = L.length
  | [], [], _ => rfl
  | [], _ :: _, h => h.elim
  | _ :: _, [], h => h.elim
  | _ :: qs, _ :: L, h => congrArg (· + 1) (QT.len h.2)
/-! ### what is seen -/
def keyI (S : List Int) : List L2.Key := S.map Sum.inl
theorem keyI_map (S : List Int) : (keyI S).map kV = iv S := by
  unfold keyI iv
  rw [List.map_map]
  rfl
theorem keyI_inj {S T : List Int} (e : keyI S = keyI T) : S = T := by
  have := congrArg (List.map kV) e
  rw [keyI_map, keyI_map] at this
  exact List.map_inj_right (fun a b h => V.int.inj h) |>.mp this
def kvOf (e : Ent) : List L2.Key × V := (keyI e.1, .bl true)
theorem seen_in (S : List Int) (L : List Ent) : (valV (L.map kvOf) (keyI S)).isSome = decide (S ∈ L.map (·.1)) := by
  rw [← valV_any, List.any_map]
  induction L with
  | nil => rfl
  | cons e L ih =>
    rw [List.any_cons, ih, List.map_cons]
    show (decide (keyI e.1 = keyI S) || _) = decide (S ∈ e.1 :: L.map (·.1))
    by_cases h : S = e.1
    · subst h; simp
    · have h2 : ¬ keyI e.1 = keyI S := fun z => h (keyI_inj z).symm
      rw [decide_eq_false h2, Bool.false_or]
      congr 1
      rw [List.mem_cons]
      simp [h]
theorem seen_none {S : List Int} {L : List Ent} (h : S ∉ L.map (·.1)) : valV (L.map kvOf) (keyI S) = none := by
  have := seen_in S L
  rw [decide_eq_false h] at this
  exact Option.isSome_eq_false_iff.mp this |> Option.isNone_iff_eq_none.mp
end
end Sb

namespace Sb
open PySem PySem.Spec PyProof.Rows L2 Evl
section
variable {P : Program} {w : World} {K : PySem.W.Frag} {mg : PySem.Str → Option Value} {base : Heap} {k : Nat} {aP aI : Addr} {t1 t2 t3 : Tok}
/-- the block of the dict comprehension in step_text -/
abbrev sc_blk_step_text : Scope := { kind := .function, names := [(".0", .local), ("number", .cell), ("range", .globalImplicit), ("frame_size", .globalImplicit), ("shape", .free)], isGenerator := false, isCoroutine := false }
theorem ok_step_text {f : Addr} {fd : FuncData} (F : Fun K "step_text" "step_text" s_step_text f fd) (B : Bi mg) (T : Tc K mg aP aI t1 t2 t3) (C_require_shape : Cal P w K mg base k "require_shape" ["shape"] [] sp_require_shape) (C_require_different : Cal P w K mg base k "require_different" ["shape", "numbers", "most"] [] sp_require_different)
    (C_frame_size : Cal P w K mg base k "frame_size" ["shape"] [] sp_frame_size) (C_next_place : Cal P w K mg base k "next_place" ["shape", "place", "number"] [] sp_next_place) : FnOk P w K mg base CX0 (k + 1) f fd ["shape", "numbers"] sp_step_text := by
  refine F.ok sc_step_text (fun vs H Q E h => ?_) (fun cdv A outer s H vs Q E hr h => ?_)
  · obtain ⟨t, h, l, ns, rfl, _⟩ := h; rfl
  · obtain ⟨t, h, l, ns, rfl, S, ok, h11, hl, hn, nd, hl1, hl2, q⟩ := h
    have hN3 := size_ge ok
    have DL := dlt_dl ok
    -- 0:shape 1:numbers 2:allowed 3:number 4:maps 5:first 6:seen 7:waiting 8:places 9:text 10:later 11:place
    refine ⟨_, pss_cons (ps_expr (pcl C_require_shape hr (pa_cons (pv 0) pa_nil)))
      (pss_cons (ps_expr (pcl C_require_different hr (pa_cons (pv 0) (pa_cons (pv 1) (pa_cons (pe_glob rfl T.m_MOST_ALLOWED T.r_MOST_ALLOWED) pa_nil)))))
      (pss_cons (ps_set (i := 2) sc_step_text.nd rfl (.inl rfl) (pe_callB cr_sorted rfl B.sorted (by decide +kernel) (pa_cons (pv 1) pa_nil)))
      (pss_cons (ps_set (i := 4) sc_step_text.nd rfl (.inr rfl) (pe_dc (own := [("number", 3)]) (g := gName 3) (tt := tYes) rfl sc_step_text.nd (pi_list (pv 2)) (blkOk_by (own := [("number", 3)]) (N := N_step_text) (sc := defScope s_step_text) (by decide +kernel)) (fun _ _ _ _ _ => (pg_name (i := 3) sc_step_text.nd rfl (.inr rfl))) (fun _ _ _ _ _ => pts_nil) (fun _ _ _ _ _ => (pv 3)) (fun _ _ _ _ _ => (pe_lc (own := [("place", 11)]) (g := gName 11) (tt := tYes) rfl sc_step_text.nd (pi_range1 rfl B.range (pa_cons (pcl C_frame_size hr (pa_cons (pv 0) pa_nil)) pa_nil)) (blkOk_by (own := [("place", 11)]) (N := N_step_text) (sc := relS sc_blk_step_text (defScope s_step_text)) (by decide +kernel)) (fun _ _ _ _ _ => (pg_name (i := 11) sc_step_text.nd rfl (.inl rfl))) (fun _ _ _ _ _ => pts_nil) (fun _ _ _ _ _ => (pcl C_next_place hr (pa_cons (pv 0) (pa_cons (pv 11) (pa_cons (pv 3) pa_nil)))))))))
      (pss_cons (ps_set (i := 5) sc_step_text.nd rfl (.inl rfl) (pe_tupRg rfl rfl B.tuple (prg_2 rfl B.range pe_int (pcl C_frame_size hr (pa_cons (pv 0) pa_nil)))))
      (pss_cons (ps_par (i := 6) (j := 7) rfl sc_step_text.nd rfl rfl (by decide) rfl rfl (pa_cons (pe_dict1T (hu_of hr) (pv 5) pe_bl) (pa_cons (pe_lst (pa_cons (pe_tup (pa_cons (pv 5) (pa_cons (pe_lst pa_nil) pa_nil))) pa_nil)) pa_nil)) (by rfl))
      (pss_cons (ps_while PassesOwn.never (pt_cmpR (op_neD hr.units) (pv 7) (pe_lst pa_nil) (nomark _)) (pss_cons (ps_asg (pe_bm PySem.F.plainAttrs_list PySem.F.slot_list_pop PySem.F.type_list_pop mt_popAt (pv 7) (pa_cons pe_int pa_nil)) (pg_tup rfl (pgs_cons (pg_name (i := 8) sc_step_text.nd rfl (.inl rfl)) (pgs_cons (pg_name (i := 9) sc_step_text.nd rfl (.inl rfl)) pgs_nil))))
      (pss_one (ps_for PassesOwn.never rfl (pi_list (pv 2)) (pg_name (i := 3) sc_step_text.nd rfl (.inr rfl)) (pss_cons (ps_set (i := 10) sc_step_text.nd rfl (.inl rfl) (pe_callTy call_tuple_of rfl B.tuple PyProof.Rows.boot_tuple (pa_cons (pe_callB (cr_sortedSet rfl) rfl B.sorted (by decide +kernel) (pa_cons (pe_scI (own := [("place", 11)]) (g := gName 11) (tt := tTest (tOp (rI0 fun i j => .bl (decide (j < i))) (tOp (rIxL K) (tDGet (tVar 4) (tVar 3)) (tVar 11)) (tC (.int 0)))) (te := tOp (rIxL K) (tDGet (tVar 4) (tVar 3)) (tVar 11)) rfl sc_step_text.nd (pi_tup (pv 8)) (blkOk_by (own := [("place", 11)]) (N := N_step_text) (sc := defScope s_step_text) (by decide +kernel)) (fun _ _ _ _ _ => (pg_name (i := 11) sc_step_text.nd rfl (.inl rfl))) (fun _ _ _ _ _ => (pts_one (pt_cmpR op_gt (pe_ix ix_list (pe_dget (hu_of hr) (pv 4) (pv 3) (fun _ _ => rfl)) (pv 11) (fun _ _ => rfl)) pe_int (nomark _)))) (fun _ _ _ _ _ => (pe_ix ix_list (pe_dget (hu_of hr) (pv 4) (pv 3) (fun _ _ => rfl)) (pv 11) (fun _ _ => rfl)))) pa_nil)) pa_nil)))
      (pss_cons (ps_if (pt_cmpR (op_eqD hr.units) (pv 10) (pe_tup pa_nil) (nomark _)) (pss_one (ps_ret (pe_lst (StX.pa_star (pv 9) (pa_cons (pv 3) pa_nil))))) pss_nil)
      (pss_one (ps_if (pt_cmp (pc_dnotin (hu_of hr) (pv 10) (pv 6)) rfl) (pss_cons (ps_dput (hu_of hr) (pv 6) (pv 10) pe_bl rfl)
      (pss_one (ps_expr (pe_bm PySem.F.plainAttrs_list PySem.F.slot_list_append PySem.F.type_list_append mt_append (pv 7) (pa_cons (pe_tup (pa_cons (pv 10) (pa_cons (pe_lst (StX.pa_star (pv 9) (pa_cons (pv 3) pa_nil))) pa_nil))) pa_nil))))) pss_nil))))))))
      (pss_one (ps_ret pe_non)))))))), ?_⟩
    refine ⟨_, rfl, t, h, rfl, S, ok, fun H1 e1 => ?_⟩
    refine ⟨_, rfl, _, rfl, t, h, l, ns, 20, rfl, S.ex e1, ok, e1 _ _ hl, hn, nd, hl1, by omega, by omega, fun H2 e2' => ?_⟩
    have e2 := e1.trans e2'
    -- allowed = sorted(numbers)
    refine ⟨_, rfl, l, ns, rfl, SqL.of (e2 _ _ hl), by omega, fun al pal perm _ hpal => ?_⟩
    have e3 := e2.trans (Ex.new (o := .lst (al.map V.int)) hpal)
    have hal0 : (upd H2 pal (.lst (iv al))) pal = some (.lst (iv al)) := upd_same
    have hmem : ∀ a, a ∈ al ↔ a ∈ ns := fun a => perm.mem_iff
    have hlal : al.length = ns.length := perm.length_eq
    generalize upd H2 pal (.lst (al.map V.int)) = H3 at *
    -- maps = {..}
    refine ⟨_, rfl, pal, rfl, ⟨_, SqL.of hal0⟩, fun D hD => dc_list (xs := iv al) (fun i H' => Ex H3 H' ∧ ∃ kvs, H' D = some (.dK kvs) ∧ kvs.length ≤ i ∧ ∀ n ∈ al.take i, ∃ r, valV kvs (.inl n) = some (.ref r) ∧ H' r = some (.lst (iv (rowOf h n)))) ?_ ?_ ?_ ?_⟩
    · exact ⟨Ex.new hD, [], upd_same, Nat.le_refl _, fun n hn => by simp at hn⟩
    · rintro i H' _ ⟨e', _⟩
      exact SqL.of (e' _ _ hal0)
    · rintro i x H' hx ⟨e', kvs, hk, hkl, hrow⟩
      obtain ⟨n, hm, rfl⟩ := iv_at hx
      have hv := hn n ((hmem n).mp (List.mem_of_getElem? hm))
      refine ⟨rfl, ?_⟩
      refine yes_if ?_
      refine ⟨_, rfl, ?_⟩
      refine (el_row (σ := [some (.ref t), some (.ref l), some (.ref pal), some (.int n), none, none, none, none, none, none, none, none]) (S.ex (e3.trans e')) ok hv.1 (by show 11 < 12; decide) rfl rfl) H' (Ex.refl H') _ fun r H4 hr4 e4 hx4 => ?_
      have hk4 := e4 _ _ hk
      have nr : r ≠ D := fun z => by rw [z, hk] at hr4; cases hr4
      have hi : i < al.length := (List.getElem?_eq_some_iff.mp hm).1
      refine ⟨kvs, .inl n, rfl, hk4, small1000 (by omega), Ex.mut (e'.trans e4) hD, _, upd_same, by have := length_putK kvs (.inl n) (.ref r); omega, fun n' hn' => ?_⟩
      rw [valV_put]
      by_cases en : n' = n
      · subst en
        rw [if_pos rfl]
        exact ⟨r, rfl, by rw [upd_ne nr]; exact hx4⟩
      · rw [if_neg (fun z => en (Sum.inl.inj z))]
        rw [List.take_add_one, hm] at hn'
        rcases List.mem_append.mp hn' with m | m
        · obtain ⟨r', a, b⟩ := hrow n' m
          refine ⟨r', a, ?_⟩
          rw [upd_ne (ne_of (e4 _ _ b) hk4 (fun z => nomatch z))]
          exact e4 _ _ b
        · exact absurd (by simpa using m) en
    · rintro H5 ⟨e5', kvs, hk5, _, hrow⟩
      rw [iv_len, List.take_length] at hrow
      have R5 : Rows H5 h D al := ⟨kvs, hk5, hrow⟩
      have e5 := e3.trans e5'
      have hal5 := e5' _ _ hal0
      -- first = tuple(range(1, frame_size(shape)))
      refine ⟨_, rfl, t, h, rfl, S.ex e5, fun H6 e6' => ⟨1, _, rfl, rfl, RgOk.of_le (by decide) (by omega) (by decide) (by omega), fun pf hpf => ?_⟩⟩
      rw [rg_first]
      have e56 := e6'.trans (Ex.new (o := .tup (iv (firstS h.size))) hpf)
      have hf7 : (upd H6 pf (.tup (iv (firstS h.size)))) pf = some (.tup (iv (firstS h.size))) := upd_same
      have e7 := e5.trans e56
      have R7 := R5.ex e56
      have hal7 := e56 _ _ hal5
      generalize upd H6 pf (.tup (iv (firstS h.size))) = H7 at *
      -- seen, waiting = {first: True}, [(first, [])]
      refine fun sd hsd => ?_
      have e8 := Ex.new (o := .dT []) hsd
      refine ⟨_, rfl, pf, keyI (firstS h.size), rfl, by rw [keyI_map]; exact e8 _ _ hf7, upd_same, ?_⟩
      rw [upd_upd]
      have hs8 : (upd H7 sd (.dT [(keyI (firstS h.size), .bl true)])) sd = some (.dT ([((firstS h.size, []) : Ent)].map kvOf)) := upd_same
      have e8 := Ex.new (o := .dT [(keyI (firstS h.size), .bl true)]) hsd
      generalize upd H7 sd (.dT [(keyI (firstS h.size), .bl true)]) = H8 at *
      refine ⟨_, rfl, Nat.zero_le _, fun tx htx => ⟨by show 2 ≤ sizeLine; decide, fun tp htp => ⟨by show 1 ≤ sizeLine; decide, fun wt hwt => ⟨_, _, rfl, ?_⟩⟩⟩⟩
      have e9a := Ex.new (o := .lst []) htx
      have e9b := Ex.new (o := .tup [.ref pf, .ref tx]) htp
      have e9c := Ex.new (o := .lst [.ref tp]) hwt
      have ntx : tx ≠ wt := ne_of_none (e9b _ _ (upd_same : upd H8 tx (.lst []) tx = some (.lst []))) hwt
      have htp9 := e9c _ _ (upd_same : upd (upd H8 tx (.lst [])) tp (.tup [.ref pf, .ref tx]) tp = some (.tup [.ref pf, .ref tx]))
      have htx9 := e9c _ _ (e9b _ _ (upd_same : upd H8 tx (.lst []) tx = some (.lst [])))
      have e89 := (e9a.trans e9b).trans e9c
      have hwt9 : (upd (upd (upd H8 tx (.lst [])) tp (.tup [.ref pf, .ref tx])) wt (.lst [.ref tp])) wt = some (.lst ([tp].map V.ref)) := upd_same
      have hwt7 : H7 wt = none := fresh_back ((e8.trans e9a).trans e9b) hwt
      generalize upd (upd (upd H8 tx (.lst [])) tp (.tup [.ref pf, .ref tx])) wt (.lst [.ref tp]) = H9 at *
      have e79 := e8.trans e89
      -- while waiting != []
      show tSeq _ _ _ _ _
      refine q_while (fun m σ H' => ∃ (ord : List Ent) (kk : Nat) (qs : List Addr) (v3 v8 v9 v10 : Option V), m + kk = 2048 ∧ σ = [some (.ref t), some (.ref l), some (.ref pal), v3, some (.ref D), some (.ref pf), some (.ref sd), some (.ref wt), v8, v9, v10, none] ∧
        Ex H7 H' ∧ H' sd = some (.dT (ord.map kvOf)) ∧ H' wt = some (.lst (qs.map V.ref)) ∧ QT H' wt qs (ord.drop kk) ∧ Bf h.size (dlt h) al ord kk 0) 2048 ?_ ?_
      · exact ⟨[(firstS h.size, [])], 0, [tp], none, none, none, none, rfl, rfl, e79, e89 _ _ hs8, hwt9, ⟨⟨pf, tx, htp9, e79 _ _ hf7, htx9, ntx⟩, trivial⟩, Bf.start (by omega)⟩
      · rintro m σ H' ⟨ord, kk, qs, v3, v8, v9, v10, hm, rfl, x7, hsd', hwt', hq', Bk⟩
        have few := Bk.few h11
        refine ⟨!(PyData.eqv (.list ((ord.drop kk).map qd)) (.list [])), fun H1 e Q q => ?_, fun hb H1 e => ?_, fun hb H1 e => ?_⟩
        · refine ⟨_, rfl, Nat.zero_le _, fun p hp => ⟨_, _, Dp.lst (SqL.of ((e.trans (Ex.new hp)) _ _ hwt')) (QT.dp ((hq'.ex e).ex (Ex.new hp))), Dp.lst (SqL.of upd_same) .nil, shp_q _, rfl, _, rfl, q _ (Ex.new hp)⟩⟩
        · -- a turn
          have hne : ord.drop kk ≠ [] := fun z => by rw [z] at hb; exact absurd hb (by rw [List.map_nil, eqv_nil_l]; decide)
          have hkl : kk < ord.length := by
            rcases Nat.lt_or_ge kk ord.length with z | z
            · exact z
            · exact absurd (List.drop_eq_nil_of_le z) hne
          obtain ⟨e0, he0⟩ : ∃ e0, ord[kk]? = some e0 := ⟨_, List.getElem?_eq_getElem hkl⟩
          have hdr : ord.drop kk = e0 :: ord.drop (kk + 1) := by
            rw [List.drop_eq_getElem_cons hkl]
            rw [List.getElem?_eq_getElem hkl] at he0
            rw [Option.some.inj he0]
          rw [hdr] at hq'
          obtain ⟨q0, qs', rfl⟩ : ∃ q0 qs', qs = q0 :: qs' := by
            cases qs with
            | nil => exact hq'.elim
            | cons a b => exact ⟨a, b, rfl⟩
          obtain ⟨⟨a0, b0, hq0, ha0, hb0, nb0⟩, hqs'⟩ := hq'
          have hC := (Bk.is e0 (List.mem_of_getElem? he0)).1
          have C : Cs h.size e0.1 := by rw [hC]; exact rch_cs _ first_cs
          refine ⟨fun σ2 H2 => ∃ (ord : List Ent) (qs : List Addr) (v3 v8 v9 v10 : Option V), σ2 = [some (.ref t), some (.ref l), some (.ref pal), v3, some (.ref D), some (.ref pf), some (.ref sd), some (.ref wt), v8, v9, v10, none] ∧
            Ex H7 H2 ∧ H2 sd = some (.dT (ord.map kvOf)) ∧ H2 wt = some (.lst (qs.map V.ref)) ∧ QT H2 wt qs (ord.drop (kk + 1)) ∧ Bf h.size (dlt h) al ord (kk + 1) 0, ?_, ?_⟩
          · rintro σ2 H2 ⟨ord, qs, v3, v8, v9, v10, h1, h2⟩
            exact ⟨m - 1, by omega, ord, kk + 1, qs, v3, v8, v9, v10, by omega, h1, h2⟩
          -- places, text = waiting.pop(0)
          have hwt1 := e _ _ hwt'
          have x1 := x7.trans e
          refine ⟨_, rfl, .inl ⟨rfl, _, SqL.of hwt1⟩, wt, _, 0, 0, .ref q0, rfl, rfl, hwt1, by decide, by decide, by simp [seqIndex?], rfl, ?_⟩
          have hwq : (List.map V.ref (q0 :: qs')).eraseIdx 0 = qs'.map V.ref := rfl
          rw [hwq]
          have hq0' : (upd H1 wt (.lst (qs'.map V.ref))) q0 = some (.tup [.ref a0, .ref b0]) := by rw [upd_ne (ne_of (e _ _ hq0) hwt1 (fun z => nomatch z))]; exact e _ _ hq0
          refine ⟨q0, _, rfl, SqT.of hq0', rfl, _, _, rfl, _, _, rfl, rfl, ?_⟩
          have ha0' : (upd H1 wt (.lst (qs'.map V.ref))) a0 = some (.tup (iv e0.1)) := by rw [upd_ne (ne_of (e _ _ ha0) hwt1 (fun z => nomatch z))]; exact e _ _ ha0
          have hb0' : (upd H1 wt (.lst (qs'.map V.ref))) b0 = some (.lst (iv e0.2)) := by rw [upd_ne nb0]; exact e _ _ hb0
          have hs0' : (upd H1 wt (.lst (qs'.map V.ref))) sd = some (.dT (ord.map kvOf)) := by rw [upd_ne (ne_of (e _ _ hsd') hwt1 (fun z => nomatch z))]; exact e _ _ hsd'
          have xx : Ex H7 (upd H1 wt (.lst (qs'.map V.ref))) := Ex.mut x1 hwt7
          have hqs1 := (hqs'.ex e).updW (o := .lst (qs'.map V.ref)) hwt1
          -- for number in allowed
          refine ⟨_, rfl, pal, rfl, ⟨_, SqL.of (xx _ _ hal7)⟩, for_list (xs := iv al) (fun i σ H'' => ∃ (ord : List Ent) (qs : List Addr) (v3 v10 : Option V), σ = [some (.ref t), some (.ref l), some (.ref pal), v3, some (.ref D), some (.ref pf), some (.ref sd), some (.ref wt), some (.ref a0), some (.ref b0), v10, none] ∧
            Ex H7 H'' ∧ H'' sd = some (.dT (ord.map kvOf)) ∧ H'' wt = some (.lst (qs.map V.ref)) ∧ QT H'' wt qs (ord.drop (kk + 1)) ∧ Bf h.size (dlt h) al ord kk i ∧ ord[kk]? = some e0 ∧ H'' a0 = some (.tup (iv e0.1)) ∧ H'' b0 = some (.lst (iv e0.2))) ?_ ?_ ?_ ?_⟩
          · exact ⟨ord, qs', v3, v10, rfl, xx, hs0', upd_same, hqs1, Bk, he0, ha0', hb0'⟩
          · rintro i σ H2 _ ⟨_, _, _, _, _, x2, _⟩
            exact SqL.of (x2 _ _ hal7)
          · rintro i x σ H2 hx ⟨ord, qs, v3, v10, rfl, x2, hs2, hw2, hq2, B2, he2, ha2, hb2⟩
            obtain ⟨n, hmn, rfl⟩ := iv_at hx
            have hnal : n ∈ al := List.mem_of_getElem? hmn
            have hkl2 : kk < ord.length := (List.getElem?_eq_some_iff.mp he2).1
            have few2 := B2.few h11
            have htl : e0.2.length ≤ kk := B2.short kk e0 he2
            -- later = tuple(sorted({..}))
            show tSeq _ _ _ _ _
            refine q_asgU (xs := iv (img h.size (dlt h) n e0.1)) (eu_later (w := w) ok (R7.ex x2) hnal (by show 11 < 12; decide) rfl rfl rfl ha2 C) fun pl H3 hpl e3' hpl3 => ?_
            have x3 := x2.trans e3'
            -- if later == ()
            refine ⟨_, rfl, Nat.zero_le _, fun p2 hp2 => ⟨_, _, Dp.tup (SqT.of ?_) (dp_ints _ (img h.size (dlt h) n e0.1)), Dp.tup (SqT.of upd_same) .nil, (shp_ints _).2, rfl, _, rfl, ?_⟩⟩
            · rw [upd_ne (ne_of_none hpl3 hp2)]; exact hpl3
            have e4' := Ex.new (o := .tup []) hp2
            have hpl4 := e4' _ _ hpl3
            have e24 := e3'.trans e4'
            have x4 := x3.trans e4'
            generalize upd H3 p2 (.tup []) = H4 at *
            have hs4 := e24 _ _ hs2
            have hw4 := e24 _ _ hw2
            have hq4 := hq2.ex e24
            have ha4 := e24 _ _ ha2
            have hb4 := e24 _ _ hb2
            rw [eqv_nil_t]
            by_cases hz : img h.size (dlt h) n e0.1 = []
            · rw [hz]
              refine ify rfl ?_
              refine ⟨_, rfl, b0, _, rfl, .inr (SqL.of hb4), _, rfl, ?_, fun r hr => ?_⟩
              · rw [List.length_append, iv_len]
                exact Nat.le_of_lt (Nat.lt_of_le_of_lt (show _ ≤ 3000 by show e0.2.length + 1 ≤ 3000; omega) (by decide))
              · obtain ⟨f1, f2, f3⟩ := B2.found DL (by omega) h11 he2 hnal hz
                refine q.1 r (e0.2 ++ [n]) _ (fresh_back ((e7.trans x4)) hr) ((e7.trans x4).trans (Ex.new hr)) ?_ (by simp) (fun a ha => (hmem a).mp (f2 a ha)) f3 fun p p0 p1 => ?_
                · rw [upd_same, iv_snoc]
                · rcases Int.lt_or_le 0 p with z | z
                  · exact f1 p (mem_first.mpr ⟨z, p1⟩)
                  · have : p = 0 := by omega
                    rw [this]
                    exact pla_zero DL _
            · refine ifn (by cases hq : img h.size (dlt h) n e0.1 with | nil => exact absurd hq hz | cons a b => rfl) ?_
              -- if later not in seen
              refine ⟨_, rfl, _, rfl, sd, _, rfl, DGet.t (k := keyI (img h.size (dlt h) n e0.1)) hs4 (by rw [keyI_map]; exact hpl4), _, rfl, ?_⟩
              rw [seen_in]
              by_cases hin : img h.size (dlt h) n e0.1 ∈ ord.map (·.1)
              · rw [decide_eq_true hin]
                refine ifn rfl ?_
                exact ⟨ord, qs, _, _, rfl, x4, hs4, hw4, hq4, B2.old he2 hmn hin, he2, ha4, hb4⟩
              · rw [decide_eq_false hin]
                refine ify rfl ?_
                -- seen[later] = True
                refine ⟨_, rfl, _, rfl, sd, _, rfl, DPut.t (k := keyI (img h.size (dlt h) n e0.1)) hs4 (by rw [keyI_map]; exact hpl4) (by rw [List.length_map]; exact Nat.lt_of_le_of_lt few2 (by decide)), ?_⟩
                rw [putK_new _ (seen_none hin)]
                have hsd7 : H7 sd = none := hsd
                have x5 : Ex H7 (upd H4 sd (.dT (ord.map kvOf ++ [(keyI (img h.size (dlt h) n e0.1), V.bl true)]))) := Ex.mut x4 hsd7
                have hw5 : (upd H4 sd (.dT (ord.map kvOf ++ [(keyI (img h.size (dlt h) n e0.1), V.bl true)]))) wt = some (.lst (qs.map V.ref)) := by rw [upd_ne (ne_of hw4 hs4 (fun z => nomatch z))]; exact hw4
                have ha5 : (upd H4 sd (.dT (ord.map kvOf ++ [(keyI (img h.size (dlt h) n e0.1), V.bl true)]))) a0 = some (.tup (iv e0.1)) := by rw [upd_ne (ne_of ha4 hs4 (fun z => nomatch z))]; exact ha4
                have hb5 : (upd H4 sd (.dT (ord.map kvOf ++ [(keyI (img h.size (dlt h) n e0.1), V.bl true)]))) b0 = some (.lst (iv e0.2)) := by rw [upd_ne (ne_of hb4 hs4 (fun z => nomatch z))]; exact hb4
                have hpl5 : (upd H4 sd (.dT (ord.map kvOf ++ [(keyI (img h.size (dlt h) n e0.1), V.bl true)]))) pl = some (.tup (iv (img h.size (dlt h) n e0.1))) := by rw [upd_ne (ne_of hpl4 hs4 (fun z => nomatch z))]; exact hpl4
                have hq5 := hq4.updS (o := .dT (ord.map kvOf ++ [(keyI (img h.size (dlt h) n e0.1), V.bl true)])) hs4
                have hs5 : (upd H4 sd (.dT (ord.map kvOf ++ [(keyI (img h.size (dlt h) n e0.1), V.bl true)]))) sd = some (.dT ((ord ++ [(img h.size (dlt h) n e0.1, e0.2 ++ [n])]).map kvOf)) := by rw [upd_same, List.map_append]; rfl
                generalize upd H4 sd (.dT (ord.map kvOf ++ [(keyI (img h.size (dlt h) n e0.1), V.bl true)])) = H5 at *
                -- waiting.append((later, [*text, number]))
                refine ⟨_, rfl, .inl ⟨rfl, _, SqL.of hw5⟩, _, rfl, _, rfl, b0, _, rfl, .inr (SqL.of hb5), _, rfl, ?_, fun nb hnb => ⟨by show 2 ≤ sizeLine; decide, fun tp2 htp2 => ?_⟩⟩
                · rw [List.length_append, iv_len]
                  exact Nat.le_of_lt (Nat.lt_of_le_of_lt (show _ ≤ 3000 by show e0.2.length + 1 ≤ 3000; omega) (by decide))
                have y1 := Ex.new (o := .lst (iv e0.2 ++ [V.int n])) hnb
                have y2 := Ex.new (o := .tup [.ref pl, .ref nb]) htp2
                have hnb6 := y2 _ _ (upd_same : (upd H5 nb (.lst (iv e0.2 ++ [V.int n]))) nb = some (.lst (iv e0.2 ++ [V.int n])))
                have htp6 : (upd (upd H5 nb (.lst (iv e0.2 ++ [V.int n]))) tp2 (.tup [.ref pl, .ref nb])) tp2 = some (.tup [.ref pl, .ref nb]) := upd_same
                have y := y1.trans y2
                have nnb : nb ≠ wt := fun z => by rw [z, hw5] at hnb; cases hnb
                generalize upd (upd H5 nb (.lst (iv e0.2 ++ [V.int n]))) tp2 (.tup [.ref pl, .ref nb]) = H6' at *
                have hw6 := y _ _ hw5
                refine ⟨wt, _, _, rfl, rfl, hw6, ?_, ?_⟩
                · have hql := hq5.len
                  rw [List.length_map, hql, List.length_drop]
                  exact Nat.lt_of_le_of_lt (show _ ≤ 2048 by omega) (by decide)
                refine ⟨ord ++ [(img h.size (dlt h) n e0.1, e0.2 ++ [n])], qs ++ [tp2], _, _, rfl, Ex.mut (x5.trans y) hwt7, ?_, ?_, ?_, B2.new he2 hmn hz hin, get_left he2, ?_, ?_⟩
                · rw [upd_ne (ne_of (y _ _ hs5) hw6 (fun z => nomatch z))]; exact y _ _ hs5
                · rw [upd_same, List.map_append]; rfl
                · rw [List.drop_append_of_le_length (by omega)]
                  refine (QT.snoc ?_ (hq5.ex y)).updW hw6
                  exact ⟨pl, nb, htp6, y _ _ hpl5, by rw [iv_snoc]; exact hnb6, nnb⟩
                · rw [upd_ne (ne_of (y _ _ ha5) hw6 (fun z => nomatch z))]; exact y _ _ ha5
                · rw [upd_ne nb0]; exact y _ _ hb5
          · rintro σ H2 ⟨ord, qs, v3, v10, rfl, x2, hs2, hw2, hq2, B2, he2, ha2, hb2⟩
            rw [iv_len] at B2
            exact ⟨ord, qs, _, _, _, _, rfl, x2, hs2, hw2, hq2, B2.next (List.getElem?_eq_some_iff.mp he2).1⟩
        · -- the end: no text is in step
          have hnil : ord.length ≤ kk := by
            rw [eqv_nil_l] at hb
            have : ((ord.drop kk).map qd).isEmpty = true := by simpa using hb
            simpa [List.isEmpty_iff] using this
          refine q.2 H1 ((e7.trans x7).trans e) fun w hw => ?_
          have hne := Bk.none hnil (w := w) fun a ha => (hmem a).mpr (hw a ha)
          refine Classical.byContradiction fun no => hne ((rch_nil DL first_cs).mpr fun p hp => ?_)
          have hp' := mem_first.mp hp
          refine Classical.byContradiction fun z => no ⟨p, by omega, hp'.2, z⟩
end
end Sb

namespace Sb
open PySem PySem.Spec PyProof.Rows L2 Evl
section
variable {P : Program} {w : World} {K : PySem.W.Frag} {mg : PySem.Str → Option Value} {base : Heap} {k : Nat} {aP aI : Addr} {t1 t2 t3 : Tok}
theorem powW_ok {i : Int} {j n : Nat} (h : i.natAbs < 2 ^ n) (hn : n * j ≤ 134217728) : CPowW i (j : Int) := by
  have b := PyProof.Rows.intBits_le h
  have e : (2 : Int) ^ 27 = 134217728 := by decide
  refine ⟨Int.natCast_nonneg _, ?_⟩
  rw [e]
  have : Builtin.Int.intBits i * j ≤ n * j := Nat.mul_le_mul_right j b
  have q : ((Builtin.Int.intBits i : Int) * (j : Int)) = ((Builtin.Int.intBits i * j : Nat) : Int) := (Int.natCast_mul _ _).symm
  rw [q]
  omega
theorem Exb.refl (t : Addr) (H : Hp) : Exb t H H := fun _ _ _ h => h
theorem Exb.trans {t : Addr} {H H1 H2 : Hp} (a : Exb t H H1) (b : Exb t H1 H2) : Exb t H H2 := fun c o n h => b c o n (a c o n h)
theorem Exb.of {t : Addr} {H H' : Hp} (e : Ex H H') : Exb t H H' := fun b o _ h => e b o h
theorem Exb.self (t : Addr) (H : Hp) (o : HO) : Exb t H (upd H t o) := fun b u n h => by rw [upd_ne n]; exact h
/-- an object that H does not know may change -/
theorem Exb.mut {t p : Addr} {H H' : Hp} {o : HO} (e : Exb t H H') (h : H p = none) : Exb t H (upd H' p o) := fun b u n hb => by
  rw [upd_ne (ne_of_none hb h)]
  exact e b u n hb
theorem TankAt.ex {H H' : Hp} {t : Addr} {c : Nat} (e : Ex H H') (T : TankAt H t c) : TankAt H' t c := by
  obtain ⟨a, b, d, h, r⟩ := T
  exact ⟨a, b, d, e _ _ h, r⟩
theorem TankAt.le {H : Hp} {t : Addr} {c c' : Nat} (T : TankAt H t c) (h : c ≤ c') : TankAt H t c' := by
  obtain ⟨a, b, d, h1, h2, h3, h4, h5, h6⟩ := T
  exact ⟨a, b, d, h1, h2, h3, h4, h5, by omega⟩
theorem TankAt.upd {H : Hp} {t p : Addr} {c : Nat} {o : HO} (T : TankAt H t c) (h : t ≠ p) : TankAt (L2.upd H p o) t c := by
  obtain ⟨a, b, d, h1, r⟩ := T
  exact ⟨a, b, d, by rw [upd_ne h]; exact h1, r⟩
theorem TankAt.ne {H : Hp} {t p : Addr} {c : Nat} (T : TankAt H t c) (h : H p = none) : p ≠ t := by
  obtain ⟨a, b, d, h1, r⟩ := T
  exact fun z => by rw [z, h1] at h; cases h
theorem ShT.exb {H H' : Hp} {t k : Addr} {c : Nat} {h : Shp} (S : ShT H t h) (T : TankAt H k c) (e : Exb k H H') : ShT H' t h := by
  obtain ⟨a, b, d, h1, r⟩ := T
  exact e _ _ (ne_of S h1 (fun z => nomatch z)) S
theorem ok__law_tank {f : Addr} {fd : FuncData} (F : Fun K "_law_tank" "_law_tank" s__law_tank f fd) (B : Bi mg) : FnOk P w K mg base CX0 (k + 1) f fd ["_law_script", "_law_at"] (sp_tank K) := by
  refine F.ok sc__law_tank (fun vs H Q E h => ?_) (fun cdv A outer s H vs Q E hr h => ?_)
  · obtain ⟨sc, ns, i, rfl, _⟩ := h; rfl
  · obtain ⟨sc, ns, i, rfl, hS, hlen, h0, h3, q⟩ := h
    -- 0:_law_script 1:_law_at 2:_law_cell
    refine ⟨_, pss_cons (ps_set (i := 2) sc__law_tank.nd rfl (.inl rfl) (pe_ifExp (pt_cmpR op_lt (pv 1) (pe_callB call_len_seq rfl B.len PySem.boot_len (pa_cons (pv 0) pa_nil)) (nomark _)) (pe_ix ix_list (pv 0) (pv 1) (fun _ _ => rfl)) pe_int))
      (pss_one (ps_ret (pe_lst (pa_cons (pe_callB (call_max2 rfl) rfl B.max (by decide +kernel) (pa_cons pe_int (pa_cons (pe_op op_sub (pe_callB call_abs rfl B.abs (by decide +kernel) (pa_cons (pv 2) pa_nil)) (pe_op op_powW pe_int pe_int)) pa_nil))) (pa_cons (pe_op op_add (pe_op op_mod (pe_callTy call_int1 rfl B.int PyProof.Rows.boot_int (pa_cons (pv 2) pa_nil)) pe_int) (pe_op op_mul pe_int (pe_op op_add (pv 1) pe_int))) (pa_cons pe_int pa_nil)))))), ?_⟩
    obtain ⟨cell, hcell⟩ : ∃ cell : Int, Ev (tIf (tTest (tOp (rI0 fun i j => .bl (decide (i < j))) (tVar 1) (tCB (rLenS K) (tCons (tVar 0) tNil)))) (tOp (rIxL K) (tVar 0) (tVar 1)) (tC (.int 0))) [some (.ref sc), some (.int i), none] H (.int cell) := by
      by_cases hi : i < ns.length
      · obtain ⟨j, rfl⟩ : ∃ j : Nat, i = (j : Int) := ⟨i.toNat, by omega⟩
        have hj : j < ns.length := by omega
        refine ⟨ns[j], ev_if (b := decide ((j : Int) < ((iv ns).length : Int))) (et_test (ev_op (ev_var rfl) (ev_len (ev_var rfl) hS) rv_I0)) (fun _ => ev_op (ev_var rfl) (ev_var rfl) (rv_ixL hS (atI_nat (iv_get (List.getElem?_eq_getElem hj))))) fun hb => ?_⟩
        have hb := of_decide_eq_false hb
        rw [iv_len] at hb
        exact absurd hi hb
      · refine ⟨0, ev_if (b := decide (i < ((iv ns).length : Int))) (et_test (ev_op (ev_var rfl) (ev_len (ev_var rfl) hS) rv_I0)) (fun hb => ?_) fun _ => ev_c⟩
        have hb := of_decide_eq_true hb
        rw [iv_len] at hb
        exact absurd hb hi
    refine q_asg hcell fun H1 e1 => ?_
    refine ⟨_, rfl, _, rfl, _, _, rfl, rfl, powW_ok (j := 18) (n := 4) (by decide) (by decide), _, _, rfl, rfl, _, _, rfl, ?_⟩
    refine ⟨_, rfl, .inl ⟨_, rfl, _, _, rfl, rfl, (by show (0 : Int) < _; decide), _, rfl, _, _, rfl, rfl, _, _, rfl, rfl, .inl ⟨by decide, by decide⟩, _, _, rfl, rfl, ?_⟩⟩
    refine ⟨(by show 3 ≤ sizeLine; decide), fun p hp => q p _ (fresh_back e1 hp) (e1.trans (Ex.new hp)) ⟨_, _, 0, upd_same, ?_, ?_, ?_, Int.le_refl _, Int.le_refl _⟩⟩
    · split <;> omega
    · have := Int.emod_nonneg cell (show (1000000000000000003 : Int) ≠ 0 by decide)
      show 0 ≤ cell % 1000000000000000003 + 104729 * (i + 1)
      omega
    · have := Int.emod_lt_of_pos cell (show (0 : Int) < 1000000000000000003 by decide)
      show cell % 1000000000000000003 + 104729 * (i + 1) < 2 ^ 61
      omega
theorem nat_lt {i : Int} {n : Nat} (h0 : 0 ≤ i) (h1 : i < 2 ^ n) : i.natAbs < 2 ^ n := by
  have : ((i.natAbs : Nat) : Int) < ((2 ^ n : Nat) : Int) := by
    rw [Int.natAbs_of_nonneg h0]
    have : ((2 ^ n : Nat) : Int) = (2 : Int) ^ n := by simp
    rw [this]
    exact h1
  exact Int.ofNat_lt.mp this
theorem ok__law_tap {f : Addr} {fd : FuncData} (F : Fun K "_law_tap" "_law_tap" s__law_tap f fd) (B : Bi mg) : FnOk P w K mg base CX0 (k + 1) f fd ["_law_tank_here", "_law_many"] sp_tap := by
  refine F.ok sc__law_tap (fun vs H Q E h => ?_) (fun cdv A outer s H vs Q E hr h => ?_)
  · obtain ⟨t, c, m, rfl, _⟩ := h; rfl
  · obtain ⟨t, c, m, rfl, ⟨a, b, d, hT, ha, hb0, hb1, hd0, hd1⟩, hc, hm0, hm1, q⟩ := h
    -- 0:_law_tank_here 1:_law_many 2:_law_drawn 3:_law_mixed
    refine ⟨_, pss_cons (ps_if (pt_cmpR op_gt (pe_ix ix_list (pv 0) pe_int (fun _ _ => rfl)) pe_int (nomark _)) (pss_cons (ps_set (i := 2) sc__law_tap.nd rfl (.inl rfl) (pe_op op_mod (pe_callTy call_int1 rfl B.int PyProof.Rows.boot_int (pa_cons (pe_ix ix_list (pv 0) pe_int (fun _ _ => rfl)) pa_nil)) (pv 1)))
      (pss_cons (ps_asg (pe_op op_fdiv (pe_ix ix_list (pv 0) pe_int (fun _ _ => rfl)) (pv 1)) (pg_sub (pv 0) pe_int set_list))
      (pss_one (ps_ret (pv 2))))) pss_nil)
      (pss_cons (ps_asg (pe_op op_add (pe_ix ix_list (pv 0) pe_int (fun _ _ => rfl)) pe_int) (pg_sub (pv 0) pe_int set_list))
      (pss_cons (ps_set (i := 3) sc__law_tap.nd rfl (.inl rfl) (pe_op op_mod (pe_callTy call_int1 rfl B.int PyProof.Rows.boot_int (pa_cons (pe_op op_powW (pe_op op_add (pe_ix ix_list (pv 0) pe_int (fun _ _ => rfl)) (pe_op op_mul pe_int (pe_ix ix_list (pv 0) pe_int (fun _ _ => rfl)))) pe_int) pa_nil)) pe_int))
      (pss_cons (ps_set (i := 3) sc__law_tap.nd rfl (.inl rfl) (pe_op op_mod (pe_callTy call_int1 rfl B.int PyProof.Rows.boot_int (pa_cons (pe_op op_powW (pe_op op_add (pv 3) (pe_op op_mul pe_int (pe_ix ix_list (pv 0) pe_int (fun _ _ => rfl)))) pe_int) pa_nil)) (pe_op op_add (pe_op op_powW pe_int pe_int) pe_int)))
      (pss_one (ps_ret (pe_op op_mod (pe_callTy call_int1 rfl B.int PyProof.Rows.boot_int (pa_cons (pe_op op_fdiv (pv 3) pe_int) pa_nil)) (pv 1))))))), ?_⟩
    refine ⟨_, rfl, t, _, 0, _, rfl, rfl, SqL.of hT, rfl, _, _, rfl, rfl, _, rfl, ifD (fun hpos => ?_) fun hpos => ?_⟩
    · refine ⟨_, rfl, t, _, 0, _, rfl, rfl, SqL.of hT, rfl, .inl ⟨_, rfl, _, rfl, _, _, rfl, rfl, (by show 0 < m; omega), ?_⟩⟩
      refine ⟨_, rfl, t, _, 0, _, rfl, rfl, SqL.of hT, rfl, _, rfl, _, _, rfl, rfl, ⟨by omega, by omega⟩, _, rfl, t, _, 0, 0, rfl, rfl, hT, rfl, ?_⟩
      refine ⟨_, rfl, q _ _ (Int.emod_nonneg _ (by omega)) (Int.emod_lt_of_pos _ (by omega)) (Exb.self _ _ _) ⟨a / m, b, d, upd_same, Int.ediv_nonneg ha (by omega), hb0, hb1, hd0, by omega⟩⟩
    · refine ⟨_, rfl, t, _, 2, _, rfl, rfl, SqL.of hT, rfl, _, _, rfl, rfl, _, rfl, t, _, 2, 2, rfl, rfl, hT, rfl, ?_⟩
      have hT1 : (upd H t (.lst [.int a, .int b, .int (d + 1)])) t = some (.lst [.int a, .int b, .int (d + 1)]) := upd_same
      have hx := Exb.self t H (.lst [.int a, .int b, .int (d + 1)])
      show tSeq _ _ _ _ (upd H t (.lst [.int a, .int b, .int (d + 1)]))
      generalize upd H t (.lst [.int a, .int b, .int (d + 1)]) = H1 at *
      have hw : (b + 350377 * (d + 1)).natAbs < 2 ^ 62 := nat_lt (by omega) (by omega)
      refine ⟨_, rfl, t, _, 1, _, rfl, rfl, SqL.of hT1, rfl, _, rfl, t, _, 2, _, rfl, rfl, SqL.of hT1, rfl, _, _, rfl, rfl, .inl ⟨by decide, by decide⟩, _, _, rfl, rfl, _, _, rfl, rfl, powW_ok (j := 3) hw (by decide), .inl ⟨_, rfl, _, _, rfl, rfl, (by show (0 : Int) < _; decide), ?_⟩⟩
      have hm2 := Int.emod_nonneg ((b + 350377 * (d + 1)) ^ (3 : Int).toNat) (show (170141183460469231731687303715884105727 : Int) ≠ 0 by decide)
      have hm3 := Int.emod_lt_of_pos ((b + 350377 * (d + 1)) ^ (3 : Int).toNat) (show (0 : Int) < 170141183460469231731687303715884105727 by decide)
      show tSeq _ _ _ [_, _, _, some (.int ((b + 350377 * (d + 1)) ^ (3 : Int).toNat % 170141183460469231731687303715884105727))] _
      generalize (b + 350377 * (d + 1)) ^ (3 : Int).toNat % 170141183460469231731687303715884105727 = mx at *
      have hw2 : (mx + 27644437 * (d + 1)).natAbs < 2 ^ 128 := nat_lt (by omega) (by omega)
      refine ⟨_, rfl, _, rfl, t, _, 2, _, rfl, rfl, SqL.of hT1, rfl, _, _, rfl, rfl, .inl ⟨by decide, by decide⟩, _, _, rfl, rfl, _, _, rfl, rfl, powW_ok (j := 3) hw2 (by decide), .inl ⟨_, rfl, _, _, rfl, rfl, powW_ok (j := 46) (n := 4) (by decide) (by decide), _, _, rfl, rfl, _, _, rfl, rfl, (by show (0 : Int) < _; decide), ?_⟩⟩
      refine ⟨_, rfl, _, _, rfl, rfl, ⟨by decide, by decide⟩, .inl ⟨_, rfl, _, rfl, _, _, rfl, rfl, (by show 0 < m; omega), ?_⟩⟩
      exact q _ _ (Int.emod_nonneg _ (by omega)) (Int.emod_lt_of_pos _ (by omega)) hx ⟨a, b, d + 1, hT1, ha, hb0, hb1, by omega, by omega⟩
end
end Sb

namespace Sb
open PySem PySem.Spec PyProof.Rows L2 Evl
section
variable {P : Program} {w : World} {K : PySem.W.Frag} {mg : PySem.Str → Option Value} {base : Heap} {k : Nat} {aP aI : Addr} {t1 t2 t3 : Tok}
theorem ok__law_shape {f : Addr} {fd : FuncData} (F : Fun K "_law_shape" "_law_shape" s__law_shape f fd) (C__law_tap : Cal P w K mg base k "_law_tap" ["_law_tank_here", "_law_many"] [] sp_tap) : FnOk P w K mg base CX0 (k + 1) f fd ["_law_tank_here", "_law_most"] sp_shape := by
  refine F.ok sc__law_shape (fun vs H Q E h => ?_) (fun cdv A outer s H vs Q E hr h => ?_)
  · obtain ⟨t, c, m, rfl, _⟩ := h; rfl
  · obtain ⟨t, c, m, rfl, hT, hc, hm1, hm9, q⟩ := h
    -- 0:_law_tank_here 1:_law_most 2:_law_bits
    refine ⟨_, pss_cons (ps_set (i := 2) sc__law_shape.nd rfl (.inl rfl) (pe_op op_add pe_int (pcl C__law_tap hr (pa_cons (pv 0) (pa_cons (pv 1) pa_nil)))))
      (pss_one (ps_ret (pe_tup (pa_cons (pv 2) (pa_cons (pe_ix ix_list (pe_lst (pa_cons pe_str (pa_cons pe_str (pa_cons pe_str pa_nil)))) (pcl C__law_tap hr (pa_cons (pv 0) (pa_cons pe_int pa_nil))) (fun _ _ => rfl)) (pa_cons (pe_op op_add pe_int (pcl C__law_tap hr (pa_cons (pv 0) (pa_cons pe_int pa_nil)))) pa_nil)))))), ?_⟩
    refine ⟨_, rfl, _, rfl, t, c, m, rfl, hT, by omega, hm1, by omega, fun r1 H1 r10 r11 x1 T1 => ⟨_, _, rfl, rfl, ?_⟩⟩
    refine ⟨_, rfl, (by show 3 ≤ sizeLine; decide), fun pl hpl => ?_⟩
    have npl := T1.ne hpl
    have y1 := Ex.new (o := .lst [.str "none", .str "even", .str "odd"]) hpl
    refine ⟨_, rfl, t, c + 1, 3, rfl, T1.ex y1, by omega, by decide, by decide, fun r2 H2 r20 r21 x2 T2 => ?_⟩
    have hp2 := x2 _ _ npl (upd_same : upd H1 pl (.lst [.str "none", .str "even", .str "odd"]) pl = some (.lst [.str "none", .str "even", .str "odd"]))
    obtain ⟨p, hp⟩ : ∃ p : Par, atI [V.str "none", V.str "even", V.str "odd"] r2 = some (.str p.str) := by
      have : r2 = 0 ∨ r2 = 1 ∨ r2 = 2 := by omega
      rcases this with rfl | rfl | rfl
      · exact ⟨.non, rfl⟩
      · exact ⟨.even, rfl⟩
      · exact ⟨.odd, rfl⟩
    refine ⟨pl, _, r2, _, rfl, rfl, SqL.of hp2, hp, ?_⟩
    refine ⟨_, rfl, t, c + 2, 2, rfl, T2, by omega, by decide, by decide, fun r3 H3 r30 r31 x3 T3 => ⟨_, _, rfl, rfl, ?_⟩⟩
    refine ⟨(by show 3 ≤ sizeLine; decide), fun tu htu => ?_⟩
    have z1 := Ex.new (o := .tup [.int (1 + r1), .str p.str, .int (1 + r3)]) htu
    refine q ⟨(1 + r1).toNat, p, (1 + r3).toNat⟩ tu _ ⟨?_, ?_, ?_, ?_⟩ ?_ (((x1.trans (Exb.of y1)).trans (x2.trans x3)).trans (Exb.of z1)) ?_ (T3.ex z1)
    · show 1 ≤ (1 + r1).toNat; omega
    · show (1 + r1).toNat ≤ 9; omega
    · show 1 ≤ (1 + r3).toNat; omega
    · show (1 + r3).toNat ≤ 2; omega
    · show ((1 + r1).toNat : Int) ≤ m; omega
    · show _ = some (HO.tup [.int (((1 + r1).toNat : Nat) : Int), .str p.str, .int (((1 + r3).toNat : Nat) : Int)])
      rw [Int.toNat_of_nonneg (by omega), Int.toNat_of_nonneg (by omega)]
      exact upd_same
theorem ok__law_numbers {f : Addr} {fd : FuncData} (F : Fun K "_law_numbers" "_law_numbers" s__law_numbers f fd) (B : Bi mg) : FnOk P w K mg base CX0 (k + 1) f fd ["_law_shape_here"] sp_numbers := by
  refine F.ok sc__law_numbers (fun vs H Q E h => ?_) (fun cdv A outer s H vs Q E hr h => ?_)
  · obtain ⟨t, h, rfl, _⟩ := h; rfl
  · obtain ⟨t, h, rfl, S, ok, q⟩ := h
    have b9 := ok.b9
    -- 0:_law_shape_here 1:_law_found 2:_law_turn
    refine ⟨_, pss_cons (ps_set (i := 1) sc__law_numbers.nd rfl (.inl rfl) pe_int)
      (pss_cons (ps_for PassesOwn.never rfl (pi_range1 rfl B.range (pa_cons (pe_ix ix_tup (pv 0) pe_int (fun _ _ => rfl)) pa_nil)) (pg_name (i := 2) sc__law_numbers.nd rfl (.inl rfl)) (pss_one (ps_set (i := 1) sc__law_numbers.nd rfl (.inl rfl) (pe_op op_mul pe_int (pv 1)))))
      (pss_one (ps_ret (pv 1)))), ?_⟩
    refine ⟨_, rfl, t, _, 0, _, rfl, rfl, S.q, rfl, _, rfl, by omega, by omega, for_range (lo := 0) (n := (h.b : Int).toNat) (fun i σ H' => ∃ v2, σ = [some (.ref t), some (.int (2 ^ i)), v2] ∧ H' = H) ?_ ?_ ?_⟩
    · exact ⟨none, rfl, rfl⟩
    · rintro i σ H' hi ⟨v2, rfl, rfl⟩
      refine ⟨_, rfl, _, _, rfl, rfl, .inl ⟨by decide, by decide⟩, some (.int (0 + (i : Int))), ?_, rfl⟩
      rw [Int.pow_succ, Int.mul_comm]
      rfl
    · rintro σ H' ⟨v2, rfl, rfl⟩
      rw [Int.toNat_natCast]
      exact ⟨_, rfl, q _ (Ex.refl _)⟩
theorem ok__law_frame {f : Addr} {fd : FuncData} (F : Fun K "_law_frame" "_law_frame" s__law_frame f fd) (B : Bi mg) : FnOk P w K mg base CX0 (k + 1) f fd ["_law_shape_here", "_law_number"] sp_frame := by
  refine F.ok sc__law_frame (fun vs H Q E h => ?_) (fun cdv A outer s H vs Q E hr h => ?_)
  · obtain ⟨t, h, n, rfl, _⟩ := h; rfl
  · obtain ⟨t, h, n, rfl, S, ok, q⟩ := h
    have b9 := ok.b9
    have s2 := ok.s2
    -- 0:_law_shape_here 1:_law_number 2:_law_levels 3:_law_left 4:_law_turn
    refine ⟨_, pss_cons (ps_par (i := 2) (j := 3) rfl sc__law_frame.nd rfl rfl (by decide) rfl rfl (pa_cons (pe_lst (pa_cons pe_int pa_nil)) (pa_cons (pv 1) pa_nil)) (by rfl))
      (pss_cons (ps_for PassesOwn.never rfl (pi_range1 rfl B.range (pa_cons (pe_ix ix_tup (pv 0) pe_int (fun _ _ => rfl)) pa_nil)) (pg_name (i := 4) sc__law_frame.nd rfl (.inl rfl)) (pss_cons (ps_expr (pe_bm PySem.F.plainAttrs_list PySem.F.slot_list_append PySem.F.type_list_append mt_append (pv 2) (pa_cons (pe_op op_mod (pe_callTy call_int1 rfl B.int PyProof.Rows.boot_int (pa_cons (pv 3) pa_nil)) pe_int) pa_nil)))
      (pss_one (ps_set (i := 3) sc__law_frame.nd rfl (.inl rfl) (pe_op op_fdiv (pv 3) pe_int)))))
      (pss_cons (ps_if (pt_cmpR op_ne (pe_ix ix_tup (pv 0) pe_int (fun _ _ => rfl)) pe_str (nomark _)) (pss_one (ps_expr (pe_bm PySem.F.plainAttrs_list PySem.F.slot_list_append PySem.F.type_list_append mt_append (pv 2) (pa_cons (pe_op op_mod (pe_callTy call_int1 rfl B.int PyProof.Rows.boot_int (pa_cons (pe_op op_add (pe_callB (cr_sum rfl) rfl B.sum (by decide +kernel) (pa_cons (pv 2) pa_nil)) (pe_callTy call_int1 rfl B.int PyProof.Rows.boot_int (pa_cons (pe_cmpR op_eq (pe_ix ix_tup (pv 0) pe_int (fun _ _ => rfl)) pe_str (nomark _)) pa_nil))) pa_nil)) pe_int) pa_nil)))) pss_nil)
      (pss_one (ps_ret (pe_op op_cat (pv 2) (pe_op op_rep (pe_lst (pa_cons pe_int pa_nil)) (pe_ix ix_tup (pv 0) pe_int (fun _ _ => rfl)))))))), ?_⟩
    refine ⟨(by show 1 ≤ sizeLine; decide), fun lv hlv => ⟨_, rfl, _, _, rfl, ?_⟩⟩
    have e0 := Ex.new (o := .lst [.int 0]) hlv
    refine ⟨_, rfl, t, _, 0, _, rfl, rfl, (S.ex e0).q, rfl, _, rfl, by omega, by omega, for_range (lo := 0) (n := (h.b : Int).toNat) (fun i σ H' => ∃ (zs : List Int) (left : Int) (v4 : Option V), σ = [some (.ref t), some (.int n), some (.ref lv), some (.int left), v4] ∧ Ex H H' ∧ H' lv = some (.lst (iv zs)) ∧ zs.length = i + 1) ?_ ?_ ?_⟩
    · exact ⟨[0], n, none, rfl, e0, upd_same, rfl⟩
    · rintro i σ H' hi ⟨zs, left, v4, rfl, e1, h1, hz⟩
      refine ⟨_, rfl, .inl ⟨rfl, _, SqL.of h1⟩, _, rfl, .inl ⟨_, rfl, _, _, rfl, rfl, (by show (0 : Int) < 2; decide), ?_⟩⟩
      refine ⟨lv, _, _, rfl, rfl, h1, by rw [iv_len]; exact small1000 (by omega), ?_⟩
      refine ⟨_, rfl, _, _, rfl, rfl, ⟨by decide, by decide⟩, ?_⟩
      exact ⟨zs ++ [left % 2], left / 2, _, rfl, Ex.mut e1 hlv, by rw [upd_same, iv_snoc], by rw [List.length_append, hz]; rfl⟩
    · rintro σ H' ⟨zs, left, v4, rfl, e1, h1, hz⟩
      rw [Int.toNat_natCast] at hz
      have fin : ∀ H2 (ys : List Int), Ex H H2 → H2 lv = some (.lst (iv ys)) → ys.length ≤ 11 → tRet (tOp rCat (tVar 2) (tOp rRep (tLst (tCons (tC (.int 1)) tNil)) (tOp (rIxT K) (tVar 0) (tC (.int 2))))) { nx := fun _ H' => Q .non H', rt := Q } [some (.ref t), some (.int n), some (.ref lv), some (.int left), v4] H2 := fun H2 ys e2 h2 hys => by
        have er : iv ys ++ (List.replicate (h.s : Int).toNat [V.int 1]).flatten = iv (ys ++ List.replicate h.s 1) := by
          rw [iv_app, Int.toNat_natCast]
          congr 1
          unfold iv
          rw [List.map_replicate, List.flatten_replicate_singleton]
        refine s_retL (xs := iv (ys ++ List.replicate h.s 1)) ?_ fun r H3 hr3 e3 h3 => q r (ys ++ List.replicate h.s 1) H3 (fresh_back e2 hr3) (e2.trans e3) h3 (by rw [List.length_append, List.length_replicate]; omega)
        rw [← er]
        refine el_catV (ev_var rfl) h2 (el_rep (el_lst (ea_cons (ev_c (v := .int 1)) ea_nil) (by show 1 ≤ 100000; decide)) (ev_op (ev_var (i := 0) rfl) (ev_c (v := .int 2)) (rv_ixT (i := 2) (S.ex e2).q rfl)) (by omega) (by omega) (by show 1 ≤ 10; decide)) ?_
        rw [iv_len, List.length_flatten, List.map_replicate, List.sum_replicate_nat]
        show ys.length + (h.s : Int).toNat * 1 ≤ 100000
        omega
      refine ⟨_, rfl, t, _, 1, _, rfl, rfl, (S.ex e1).q, rfl, scal_p _ _, _, rfl, ifNP (fun _ => ?_) fun _ => fin _ zs e1 h1 (by omega)⟩
      refine ⟨_, rfl, .inl ⟨rfl, _, SqL.of h1⟩, _, rfl, lv, zs, rfl, SqL.of h1, ?_⟩
      refine ⟨_, rfl, t, _, 1, _, rfl, rfl, (S.ex e1).q, rfl, scal_p _ _, .inr ⟨_, rfl, _, _, rfl, rfl, .inl ⟨_, rfl, _, _, rfl, rfl, (by show (0 : Int) < 2; decide), ?_⟩⟩⟩
      refine ⟨lv, _, _, rfl, rfl, h1, by rw [iv_len]; exact small1000 (by omega), ?_⟩
      exact fin _ (zs ++ [_]) (Ex.mut e1 hlv) (by rw [upd_same, iv_snoc]) (by rw [List.length_append]; show zs.length + 1 ≤ 11; omega)
theorem ok__law_place {f : Addr} {fd : FuncData} (F : Fun K "_law_place" "_law_place" s__law_place f fd) (B : Bi mg) : FnOk P w K mg base CX0 (k + 1) f fd ["_law_shape_here", "_law_place_here", "_law_levels"] sp_place := by
  refine F.ok sc__law_place (fun vs H Q E h => ?_) (fun cdv A outer s H vs Q E hr h => ?_)
  · obtain ⟨t, h, p, l, zs, rfl, _⟩ := h; rfl
  · obtain ⟨t, h, p, l, zs, rfl, S, ok, hl, q⟩ := h
    have b1 := ok.b1
    have s1 := ok.s1
    -- 0:_law_shape_here 1:_law_place_here 2:_law_levels 3:_law_stop 4:_law_level
    refine ⟨_, pss_cons (ps_set (i := 3) sc__law_place.nd rfl (.inl rfl) (pe_op op_add (pe_op op_add pe_int (pe_ix ix_tup (pv 0) pe_int (fun _ _ => rfl))) (pe_callTy call_int1 rfl B.int PyProof.Rows.boot_int (pa_cons (pe_cmpR op_ne (pe_ix ix_tup (pv 0) pe_int (fun _ _ => rfl)) pe_str (nomark _)) pa_nil))))
      (pss_cons (ps_for PassesOwn.never rfl (pi_list (pv 2)) (pg_name (i := 4) sc__law_place.nd rfl (.inl rfl)) (pss_one (ps_if (pt_cmpR op_lt (pv 1) pe_int (nomark _)) (pss_one (ps_set (i := 1) sc__law_place.nd rfl (.inl rfl) (pe_op op_sub (pv 4) pe_int))) (pss_one (ps_if (pt_cmpR op_eq (pv 1) pe_int (nomark _)) (pss_one (ps_set (i := 1) sc__law_place.nd rfl (.inl rfl) (pe_op op_sub pe_int (pv 4)))) (pss_one (ps_if (PW.pt (pw_and (pt_cmpR op_ge (pv 1) (pv 3) (nomark _)) (pw_and1 (pt_cmpR op_eq (pv 4) pe_int (nomark _))))) (pss_one (ps_set (i := 1) sc__law_place.nd rfl (.inl rfl) (pe_un un_neg pe_int))) (pss_one (ps_set (i := 1) sc__law_place.nd rfl (.inl rfl) (pe_op op_mod (pe_callTy call_int1 rfl B.int PyProof.Rows.boot_int (pa_cons (pe_op op_add (pv 1) pe_int) pa_nil)) (pe_op op_add (pv 3) (pe_ix ix_tup (pv 0) pe_int (fun _ _ => rfl)))))))))))))
      (pss_one (ps_ret (pv 1)))), ?_⟩
    refine ⟨_, rfl, t, _, 0, _, rfl, rfl, S.q, rfl, _, _, rfl, rfl, ?_⟩
    refine ⟨_, rfl, t, _, 1, _, rfl, rfl, S.q, rfl, scal_p _ _, .inr ⟨_, rfl, _, _, rfl, rfl, ?_⟩⟩
    obtain ⟨st, hst, hst0⟩ : ∃ st : Int, (1 + (h.b : Int) + (if (!decide (V.str h.p.str = V.str "none")) = true then 1 else 0)) = st ∧ 0 ≤ st := ⟨_, rfl, by split <;> omega⟩
    show tSeq _ _ _ [_, _, _, some (.int (1 + (h.b : Int) + (if (!decide (V.str h.p.str = V.str "none")) = true then 1 else 0))), _] _
    rw [hst]
    refine ⟨_, rfl, l, rfl, ⟨_, SqL.of hl⟩, for_list (xs := iv zs) (fun i σ H' => ∃ (z : Int) (v4 : Option V), σ = [some (.ref t), some (.int z), some (.ref l), some (.int st), v4] ∧ H' = H) ?_ ?_ ?_ ?_⟩
    · exact ⟨p, none, rfl, rfl⟩
    · rintro i σ H' _ ⟨_, _, _, rfl⟩
      exact SqL.of hl
    · rintro i x σ H' hx ⟨z, v4, rfl, rfl⟩
      obtain ⟨y, _, rfl⟩ := iv_at hx
      refine ⟨_, rfl, _, _, rfl, rfl, _, rfl, ifD (fun _ => ?_) fun _ => ?_⟩
      · exact ⟨_, rfl, _, _, rfl, rfl, _, _, rfl, rfl⟩
      · refine ⟨_, rfl, rfl, _, rfl, ifI (fun _ => ?_) fun _ => ?_⟩
        · exact ⟨_, rfl, _, _, rfl, rfl, _, _, rfl, rfl⟩
        · refine ⟨_, rfl, _, rfl, _, _, rfl, rfl, _, rfl, ifD (fun _ => ?_) fun _ => ?_⟩
          · refine ⟨_, rfl, rfl, _, rfl, ifI (fun _ => ?_) fun _ => ?_⟩
            · exact ⟨_, rfl, _, _, rfl, rfl⟩
            · refine ⟨_, rfl, _, _, rfl, rfl, .inl ⟨_, rfl, _, rfl, _, rfl, t, _, 2, _, rfl, rfl, S.q, rfl, _, _, rfl, rfl, _, _, rfl, rfl, (by show (0 : Int) < st + h.s; omega), ?_⟩⟩
              exact ⟨_, _, rfl, rfl⟩
          · refine ⟨_, rfl, _, _, rfl, rfl, .inl ⟨_, rfl, _, rfl, _, rfl, t, _, 2, _, rfl, rfl, S.q, rfl, _, _, rfl, rfl, _, _, rfl, rfl, (by show (0 : Int) < st + h.s; omega), ?_⟩⟩
            exact ⟨_, _, rfl, rfl⟩
    · rintro σ H' ⟨z, v4, rfl, rfl⟩
      exact ⟨_, rfl, q z _ (Ex.refl _)⟩
end
end Sb

namespace Sb
open PySem PySem.Spec PyProof.Rows L2 Evl
section
variable {P : Program} {w : World} {K : PySem.W.Frag} {mg : PySem.Str → Option Value} {base : Heap} {k : Nat} {aP aI : Addr} {t1 t2 t3 : Tok}
theorem ok__law_maps {f : Addr} {fd : FuncData} (F : Fun K "_law_maps" "_law_maps" s__law_maps f fd) (B : Bi mg) (C__law_frame : Cal P w K mg base k "_law_frame" ["_law_shape_here", "_law_number"] [] sp_frame) (C__law_place : Cal P w K mg base k "_law_place" ["_law_shape_here", "_law_place_here", "_law_levels"] [] sp_place) :
    FnOk P w K mg base CX0 (k + 1) f fd ["_law_shape_here", "_law_numbers_here"] sp_maps := by
  refine F.ok sc__law_maps (fun vs H Q E h => ?_) (fun cdv A outer s H vs Q E hr h => ?_)
  · obtain ⟨t, h, l, ns, rfl, _⟩ := h; rfl
  · obtain ⟨t, h, l, ns, rfl, S, ok, hl, h6, q⟩ := h
    -- 0:_law_shape_here 1:_law_numbers_here 2:_law_found 3:_law_size 4:_law_number 5:_law_place_here
    refine ⟨_, pss_cons (ps_par (i := 2) (j := 3) rfl sc__law_maps.nd rfl rfl (by decide) rfl rfl (pa_cons pe_dnewK (pa_cons (pe_callB call_len_seq rfl B.len PySem.boot_len (pa_cons (pcl C__law_frame hr (pa_cons (pv 0) (pa_cons pe_int pa_nil))) pa_nil)) pa_nil)) (by rfl))
      (pss_cons (ps_for PassesOwn.never rfl (pi_list (pv 1)) (pg_name (i := 4) sc__law_maps.nd rfl (.inr rfl)) (pss_one (ps_dput (hu_of hr) (pv 2) (pv 4) (pe_lc (own := [("_law_place_here", 5)]) (g := gName 5) (tt := tYes) rfl sc__law_maps.nd (pi_range1 rfl B.range (pa_cons (pv 3) pa_nil)) (blkOk_by (own := [("_law_place_here", 5)]) (N := N__law_maps) (sc := defScope s__law_maps) (by decide +kernel)) (fun _ _ _ _ _ => (pg_name (i := 5) sc__law_maps.nd rfl (.inl rfl))) (fun _ _ _ _ _ => pts_nil) (fun _ _ _ _ _ => (pcl C__law_place hr (pa_cons (pv 0) (pa_cons (pv 5) (pa_cons (pcl C__law_frame hr (pa_cons (pv 0) (pa_cons (pv 4) pa_nil))) pa_nil)))))) rfl)))
      (pss_one (ps_ret (pv 2)))), ?_⟩
    refine fun d hd => ?_
    have e0 := Ex.new (o := .dK []) hd
    refine ⟨_, rfl, t, h, 0, rfl, S.ex e0, ok, fun p zs H1 hp e1' hz hzl => ⟨p, _, rfl, .inl (SqL.of hz), _, _, rfl, ?_⟩⟩
    have e1 := e0.trans e1'
    have hd1 := e1' _ _ (upd_same : upd H d (.dK []) d = some (.dK []))
    refine ⟨_, rfl, l, rfl, ⟨_, SqL.of (e1 _ _ hl)⟩, for_list (xs := iv ns) (fun i σ H' => ∃ kvs v4, σ = [some (.ref t), some (.ref l), some (.ref d), some (.int ((iv zs).length : Int)), v4, none] ∧ Ex H H' ∧ H' d = some (.dK kvs) ∧ kvs.length ≤ i ∧ ∀ n ∈ ns.take i, ∃ q zs, valV kvs (.inl n) = some (.ref q) ∧ H' q = some (.lst (iv zs))) ?_ ?_ ?_ ?_⟩
    · exact ⟨[], none, rfl, e1, hd1, Nat.le_refl _, fun n hn => by simp at hn⟩
    · rintro i σ H' _ ⟨_, _, _, e', _⟩
      exact SqL.of (e' _ _ hl)
    · rintro i x σ H2 hx ⟨kvs, v4, rfl, e2, hd2, hkl, hrow⟩
      obtain ⟨n, hm, rfl⟩ := iv_at hx
      have hi : i < ns.length := (List.getElem?_eq_some_iff.mp hm).1
      refine ⟨_, rfl, _, rfl, by omega, by rw [iv_len]; omega, fun D hD => lc_range (lo := 0) (n := ((iv zs).length : Int).toNat) (fun j H' => Ex H2 H' ∧ ∃ ys : List Int, H' D = some (.lst (iv ys)) ∧ ys.length = j) ?_ ?_ ?_⟩
      · exact ⟨Ex.new hD, [], upd_same, rfl⟩
      · rintro j H3 hj ⟨e3, ys, hy, hyl⟩
        refine ⟨rfl, ?_⟩
        refine yes_if ?_
        refine ⟨_, rfl, _, rfl, _, rfl, _, rfl, t, h, n, rfl, S.ex (e2.trans e3), ok, fun p2 z2 H4 hp2 e4 hz2 _ => ?_⟩
        refine ⟨t, h, _, p2, z2, rfl, S.ex ((e2.trans e3).trans e4), ok, hz2, fun z H5 e5 => ?_⟩
        have hy5 := e5 _ _ (e4 _ _ hy)
        rw [Int.toNat_natCast, iv_len] at hj
        refine ⟨_, hy5, by rw [iv_len]; exact small1000 (by omega), Ex.mut ((e3.trans e4).trans e5) hD, ys ++ [z], by rw [upd_same, iv_snoc], by rw [List.length_append, hyl]; rfl⟩
      · rintro H3 ⟨e3, ys, hy, _⟩
        have hd3 := e3 _ _ hd2
        refine ⟨_, rfl, _, rfl, d, _, rfl, DPut.k (k := .inl n) hd3 (small1000 (by omega)), ?_⟩
        have nD : D ≠ d := fun z => by rw [z, hd2] at hD; cases hD
        refine ⟨_, _, rfl, Ex.mut (e2.trans e3) hd, upd_same, by have := length_putK kvs (.inl n) (.ref D); omega, fun n' hn' => ?_⟩
        rw [valV_put]
        by_cases en : n' = n
        · subst en
          rw [if_pos rfl]
          exact ⟨D, ys, rfl, by rw [upd_ne nD]; exact hy⟩
        · rw [if_neg (fun z => en (Sum.inl.inj z))]
          rw [List.take_add_one, hm] at hn'
          rcases List.mem_append.mp hn' with m | m
          · obtain ⟨r', z', a, b⟩ := hrow n' m
            refine ⟨r', z', a, ?_⟩
            rw [upd_ne (ne_of (e3 _ _ b) hd3 (fun z => nomatch z))]
            exact e3 _ _ b
          · exact absurd (by simpa using m) en
    · rintro σ H2 ⟨kvs, v4, rfl, e2, hd2, hkl, hrow⟩
      rw [iv_len, List.take_length] at hrow
      exact ⟨_, rfl, q d kvs H2 hd e2 hd2 hrow⟩
theorem rg_upto (N : Nat) : rgV 0 (N : Int) = iv (upto N) := by
  unfold rgV iv upto
  rw [List.map_map, Int.sub_zero, Int.toNat_natCast]
  refine List.map_congr_left fun i _ => ?_
  show V.int (0 + (i : Int)) = V.int (i : Int)
  rw [Int.zero_add]
theorem upto_num {h : Shp} {n : Int} (hn : n ∈ upto (2 ^ h.b)) : 0 ≤ n ∧ n < 2 ^ h.b := by
  have := mem_upto.mp hn
  have e : ((2 ^ h.b : Nat) : Int) = (2 : Int) ^ h.b := by simp
  rw [e] at this
  exact this
end
end Sb

namespace Sb
open PySem PySem.Spec PyProof.Rows L2 Evl
section
variable {P : Program} {w : World} {K : PySem.W.Frag} {mg : PySem.Str → Option Value} {base : Heap} {k : Nat} {aP aI : Addr} {t1 t2 t3 : Tok}
theorem sub_of_take {α : Type} {xs : List α} {i : Nat} {x y : α} (h : xs[i]? = some x) : y ∈ xs.take (i + 1) ↔ y ∈ xs.take i ∨ y = x := by
  rw [List.take_add_one, h, List.mem_append]
  simp
theorem ok__law_allowed {f : Addr} {fd : FuncData} (F : Fun K "_law_allowed" "_law_allowed" s__law_allowed f fd) (B : Bi mg) (C__law_numbers : Cal P w K mg base k "_law_numbers" ["_law_shape_here"] [] sp_numbers) (C__law_maps : Cal P w K mg base k "_law_maps" ["_law_shape_here", "_law_numbers_here"] [] sp_maps)
    (C__law_tap : Cal P w K mg base k "_law_tap" ["_law_tank_here", "_law_many"] [] sp_tap) : FnOk P w K mg base CX0 (k + 1) f fd ["_law_tank_here", "_law_shape_here", "_law_most"] sp_allowed := by
  refine F.ok sc__law_allowed (fun vs H Q E h => ?_) (fun cdv A outer s H vs Q E hr h => ?_)
  · obtain ⟨tk, c, t, h, m, rfl, _⟩ := h; rfl
  · obtain ⟨tk, c, t, h, m, rfl, hT, hc, S, ok, hm1, hm6, q⟩ := h
    have b9 := ok.b9
    have hp9 : 2 ^ h.b ≤ 512 := Nat.le_trans (Nat.pow_le_pow_right (by decide) b9) (by decide)
    have e2b : ((2 ^ h.b : Nat) : Int) = (2 : Int) ^ h.b := by simp
    -- 0:_law_tank_here 1:_law_shape_here 2:_law_most 3:_law_every 4:_law_maps_here 5:_law_found 6:_law_keep 7:_law_turn 8:_law_some 9:_law_number
    refine ⟨_, pss_cons (ps_set (i := 3) sc__law_allowed.nd rfl (.inl rfl) (pe_listRg rfl rfl B.list (prg_1 rfl B.range (pcl C__law_numbers hr (pa_cons (pv 1) pa_nil)))))
      (pss_cons (ps_asg (pe_tup (pa_cons (pcl C__law_maps hr (pa_cons (pv 1) (pa_cons (pv 3) pa_nil))) (pa_cons (pe_lst pa_nil) pa_nil))) (pg_tup rfl (pgs_cons (pg_name (i := 4) sc__law_allowed.nd rfl (.inr rfl)) (pgs_cons (pg_name (i := 5) sc__law_allowed.nd rfl (.inr rfl)) pgs_nil))))
      (pss_cons (ps_setLc (i := 6) (own := [("_law_number", 9)]) (g := gName 9) (tt := tTest (tOp (rI0 fun i j => .bl (decide (j < i))) (tCB (rSum K) (tCons (tDGet (tVar 4) (tVar 9)) tNil)) (tC (.int 0)))) rfl sc__law_allowed.nd rfl rfl (sw_true rfl rfl rfl (by decide +kernel)) (pi_list (pv 3)) (blkOk_by (own := [("_law_number", 9)]) (N := N__law_allowed) (sc := defScope s__law_allowed) (by decide +kernel)) (fun _ _ _ _ _ => (pg_name (i := 9) sc__law_allowed.nd rfl (.inl rfl))) (fun _ _ _ _ _ => (pts_one (pt_cmpR op_gt (pe_callB (cr_sum rfl) rfl B.sum (by decide +kernel) (pa_cons (pe_dget (hu_of hr) (pv 4) (pv 9) (fun _ _ => rfl)) pa_nil)) pe_int (nomark _)))) (fun _ _ _ _ _ => (pv 9)))
      (pss_cons (ps_for PassesOwn.never rfl (pi_range1 rfl B.range (pa_cons (pe_op op_add pe_int (pcl C__law_tap hr (pa_cons (pv 0) (pa_cons (pv 2) pa_nil)))) pa_nil)) (pg_name (i := 7) sc__law_allowed.nd rfl (.inl rfl)) (pss_cons (ps_set (i := 8) sc__law_allowed.nd rfl (.inl rfl) (pe_ix ix_list (pe_lst (pa_cons (pv 3) (pa_cons (pv 6) (pa_cons (pv 6) (pa_cons (pv 6) pa_nil))))) (pcl C__law_tap hr (pa_cons (pv 0) (pa_cons pe_int pa_nil))) (fun _ _ => rfl)))
      (pss_cons (ps_setLc (i := 8) (own := [("_law_number", 9)]) (g := gName 9) (tt := tTest (tOp (rIn K true) (tVar 9) (tVar 5))) rfl sc__law_allowed.nd rfl rfl (sw_true rfl rfl rfl (by decide +kernel)) (pi_list (pv 8)) (blkOk_by (own := [("_law_number", 9)]) (N := N__law_allowed) (sc := defScope s__law_allowed) (by decide +kernel)) (fun _ _ _ _ _ => (pg_name (i := 9) sc__law_allowed.nd rfl (.inl rfl))) (fun _ _ _ _ _ => (pts_one (pt_cmpR op_notIn_seq (pv 9) (pv 5) (by rfl)))) (fun _ _ _ _ _ => (pv 9)))
      (pss_one (ps_if (pt_cmpR (op_neD hr.units) (pv 8) (pe_lst pa_nil) (nomark _)) (pss_one (ps_expr (pe_bm PySem.F.plainAttrs_list PySem.F.slot_list_append PySem.F.type_list_append mt_append (pv 5) (pa_cons (pe_ix ix_list (pv 8) (pcl C__law_tap hr (pa_cons (pv 0) (pa_cons (pe_callB call_len_seq rfl B.len PySem.boot_len (pa_cons (pv 8) pa_nil)) pa_nil))) (fun _ _ => rfl)) pa_nil)))) pss_nil)))))
      (pss_one (ps_ret (pe_ifExp (pt_cmpR (op_neD hr.units) (pv 5) (pe_lst pa_nil) (nomark _)) (pv 5) (pe_lst (pa_cons pe_int pa_nil)))))))), ?_⟩
    -- every = list(range(numbers(shape)))
    refine ⟨_, rfl, t, h, rfl, S, ok, fun H1 e1 => ⟨_, rfl, RgOk.of_le (by decide) (by rw [← e2b]; omega) (by decide) (Int.le_of_lt (pow_pos2 _)), fun ev hev => ?_⟩⟩
    rw [← e2b, rg_upto]
    have x1 := Ex.new (o := .lst (iv (upto (2 ^ h.b)))) hev
    have e1' := e1.trans x1
    have nev : ev ≠ tk := (hT.ex e1).ne hev
    have nevH := fresh_back e1 hev
    have hev1 : (upd H1 ev (.lst (iv (upto (2 ^ h.b))))) ev = some (.lst (iv (upto (2 ^ h.b)))) := upd_same
    generalize upd H1 ev (.lst (iv (upto (2 ^ h.b)))) = H1' at *
    -- maps, found = maps(shape, every), []
    refine ⟨_, rfl, _, rfl, t, h, ev, upto (2 ^ h.b), rfl, S.ex e1', ok, hev1, by rw [upto_len]; omega, fun d kvs H2 hd e2 hd2 hrow => ?_⟩
    refine ⟨Nat.zero_le _, fun fo hfo => ⟨by show 2 ≤ sizeLine; decide, fun tu htu => ⟨tu, _, rfl, SqT.of upd_same, rfl, _, _, rfl, _, _, rfl, rfl, ?_⟩⟩⟩
    have e12 := e1'.trans e2
    have y1 := Ex.new (o := .lst []) hfo
    have y2 := Ex.new (o := .tup [.ref d, .ref fo]) htu
    have hfo2 := y2 _ _ (upd_same : (upd H2 fo (.lst [])) fo = some (.lst []))
    have y := y1.trans y2
    have nfo : fo ≠ tk := (hT.ex e12).ne hfo
    have nfoH := fresh_back e12 hfo
    have nfev : fo ≠ ev := fun z => by rw [z, e2 _ _ hev1] at hfo; cases hfo
    generalize upd (upd H2 fo (.lst [])) tu (.tup [.ref d, .ref fo]) = H3 at *
    have e3 := e12.trans y
    have hd3 := y _ _ hd2
    have hev3 := (e2.trans y) _ _ hev1
    -- keep = [number for number in every if sum(maps[number]) > 0]
    refine ⟨_, rfl, ev, rfl, ⟨_, SqL.of hev3⟩, fun D hD => lc_list (xs := iv (upto (2 ^ h.b))) (fun i H' => Ex H3 H' ∧ ∃ ks : List Int, H' D = some (.lst (iv ks)) ∧ (∀ n ∈ ks, n ∈ upto (2 ^ h.b)) ∧ ks.length ≤ i) ?_ ?_ ?_ ?_⟩
    · exact ⟨Ex.new hD, [], upd_same, fun n hn => (nomatch hn), Nat.le_refl _⟩
    · rintro i H' _ ⟨e', _⟩
      exact SqL.of (e' _ _ hev3)
    · rintro i x H' hx ⟨e', ks, hks, hin, hkl⟩
      obtain ⟨n, hmn, rfl⟩ := iv_at hx
      have hnev := List.mem_of_getElem? hmn
      have hi := (List.getElem?_eq_some_iff.mp hmn).1
      rw [upto_len] at hi
      obtain ⟨r, zs, a1, a2⟩ := hrow n hnev
      refine ⟨rfl, ?_⟩
      refine ⟨_, rfl, _, rfl, d, .ref r, rfl, ?_, r, zs, rfl, SqL.of (e' _ _ (y _ _ a2)), _, _, rfl, rfl, _, rfl, ifD (fun _ => ?_) fun _ => ?_⟩
      · rw [← a1]
        exact DGet.k (k := .inl n) (e' _ _ hd3)
      · refine ⟨_, rfl, _, hks, by rw [iv_len]; exact small1000 (by omega), Ex.mut e' hD, ks ++ [n], by rw [upd_same, iv_snoc], fun n' hn' => ?_, by rw [List.length_append]; show ks.length + 1 ≤ i + 1; omega⟩
        rcases List.mem_append.mp hn' with z | z
        · exact hin n' z
        · rw [List.mem_singleton.mp z]; exact hnev
      · exact ⟨e', ks, hks, hin, by omega⟩
    rintro H4 ⟨e4', ks, hks, hkin, hkl⟩
    have nD : D ≠ tk := (hT.ex e3).ne hD
    have nDfo : fo ≠ D := fun z => by rw [← z, hfo2] at hD; cases hD
    have nDH := fresh_back e3 hD
    rw [iv_len, upto_len] at hkl
    have e4 := e3.trans e4'
    have hev4 := e4' _ _ hev3
    have hfo4 := e4' _ _ hfo2
    -- for turn in range(1 + tap(tank, most))
    refine ⟨_, rfl, _, rfl, tk, c, m, rfl, hT.ex e4, by omega, hm1, by omega, fun r H5 r0 r1 x5 T5 => ⟨_, _, rfl, rfl, _, rfl, by omega, by omega, ?_⟩⟩
    refine for_range (lo := 0) (n := (1 + r).toNat) (fun i σ H' => ∃ (fs : List Int) (v7 v8 : Option V), σ = [some (.ref tk), some (.ref t), some (.int m), some (.ref ev), some (.ref d), some (.ref fo), some (.ref D), v7, v8, none] ∧ Exb tk H H' ∧ H' fo = some (.lst (iv fs)) ∧ fs.Nodup ∧ (∀ n ∈ fs, n ∈ upto (2 ^ h.b)) ∧ fs.length ≤ i ∧
      TankAt H' tk (c + 1 + 2 * i) ∧ H' ev = some (.lst (iv (upto (2 ^ h.b)))) ∧ H' D = some (.lst (iv ks))) ?_ ?_ ?_
    · exact ⟨[], none, none, rfl, (Exb.of e4).trans x5, x5 _ _ nfo hfo4, List.nodup_nil, fun n hn => (nomatch hn), Nat.le_refl _, T5, x5 _ _ nev hev4, x5 _ _ nD hks⟩
    · rintro i σ H6 hi ⟨fs, v7, v8, rfl, x6, hf6, nd6, in6, fl6, T6, ev6, D6⟩
      -- some = [every, keep, keep, keep][tap(tank, 4)]
      refine ⟨_, rfl, _, rfl, _, rfl, _, rfl, by show 4 ≤ sizeLine; decide, fun pl hpl => ?_⟩
      have npl := T6.ne hpl
      have z1 := Ex.new (o := .lst [.ref ev, .ref D, .ref D, .ref D]) hpl
      refine ⟨_, rfl, tk, _, 4, rfl, T6.ex z1, by omega, by decide, by decide, fun r2 H7 r20 r21 x7 T7 => ?_⟩
      have hpl7 := x7 _ _ npl (upd_same : (upd H6 pl (.lst [.ref ev, .ref D, .ref D, .ref D])) pl = some (.lst [.ref ev, .ref D, .ref D, .ref D]))
      have x67 := (Exb.of z1).trans x7
      have hf7 := x67 _ _ nfo hf6
      have ev7 := x67 _ _ nev ev6
      have D7 := x67 _ _ nD D6
      obtain ⟨sl, L, hsl, hL, hLin, hLl⟩ : ∃ (sl : Addr) (L : List Int), atI [V.ref ev, V.ref D, V.ref D, V.ref D] r2 = some (.ref sl) ∧ H7 sl = some (.lst (iv L)) ∧ (∀ n ∈ L, n ∈ upto (2 ^ h.b)) ∧ L.length ≤ 512 := by
        have : r2 = 0 ∨ r2 = 1 ∨ r2 = 2 ∨ r2 = 3 := by omega
        rcases this with rfl | rfl | rfl | rfl
        · exact ⟨ev, _, rfl, ev7, fun _ z => z, by rw [upto_len]; omega⟩
        · exact ⟨D, _, rfl, D7, hkin, by omega⟩
        · exact ⟨D, _, rfl, D7, hkin, by omega⟩
        · exact ⟨D, _, rfl, D7, hkin, by omega⟩
      refine ⟨pl, _, r2, _, rfl, rfl, SqL.of hpl7, hsl, ?_⟩
      -- some = [number for number in some if number not in found]
      refine ⟨_, rfl, sl, rfl, ⟨_, SqL.of hL⟩, fun D2 hD2 => lc_list (xs := iv L) (fun j H' => Ex H7 H' ∧ ∃ js : List Int, H' D2 = some (.lst (iv js)) ∧ (∀ n ∈ js, n ∈ upto (2 ^ h.b) ∧ n ∉ fs) ∧ js.length ≤ j) ?_ ?_ ?_ ?_⟩
      · exact ⟨Ex.new hD2, [], upd_same, fun n hn => (nomatch hn), Nat.le_refl _⟩
      · rintro j H' _ ⟨e', _⟩
        exact SqL.of (e' _ _ hL)
      · rintro j x H' hx ⟨e', js, hjs, hjin, hjl⟩
        obtain ⟨n, hmn, rfl⟩ := iv_at hx
        have hnL := List.mem_of_getElem? hmn
        have hj := (List.getElem?_eq_some_iff.mp hmn).1
        refine ⟨rfl, ?_⟩
        refine ⟨_, rfl, _, rfl, fo, _, rfl, .inl (SqL.of (e' _ _ hf7)), rfl, iv_flat _, _, rfl, ?_⟩
        show (if (if true = true then !inV (V.int n) (iv fs) else inV (V.int n) (iv fs)) = true then _ else _)
        rw [if_pos (show true = true from rfl), iv_in]
        by_cases hnf : n ∈ fs
        · rw [decide_eq_true hnf]
          exact iteF ⟨e', js, hjs, hjin, by omega⟩
        · rw [decide_eq_false hnf]
          refine iteT ?_
          refine ⟨_, rfl, _, hjs, by rw [iv_len]; exact small1000 (by omega), Ex.mut e' hD2, js ++ [n], by rw [upd_same, iv_snoc], fun n' hn' => ?_, by rw [List.length_append]; show js.length + 1 ≤ j + 1; omega⟩
          rcases List.mem_append.mp hn' with z | z
          · exact hjin n' z
          · rw [List.mem_singleton.mp z]; exact ⟨hLin n hnL, hnf⟩
      rintro H8 ⟨e8, js, hjs, hjin, hjl⟩
      rw [iv_len] at hjl
      have hf8 := e8 _ _ hf7
      have ev8 := e8 _ _ ev7
      have D8 := e8 _ _ D7
      have nD2 : D2 ≠ tk := T7.ne hD2
      have x8 := x6.trans (x67.trans (Exb.of e8))
      have T8 := T7.ex e8
      -- if some != []
      refine ⟨_, rfl, Nat.zero_le _, fun p hp => ⟨_, _, Dp.lst (SqL.of ?_) (dp_ints _ js), Dp.lst (SqL.of upd_same) .nil, (shp_ints _).1, rfl, _, rfl, ?_⟩⟩
      · rw [upd_ne (ne_of_none hjs hp)]; exact hjs
      have e9 := Ex.new (o := .lst []) hp
      have hj9 := e9 _ _ hjs
      have hf9 := e9 _ _ hf8
      have ev9 := e9 _ _ ev8
      have D9 := e9 _ _ D8
      have x9 := x8.trans (Exb.of e9)
      have T9 := T8.ex e9
      generalize upd H8 p (.lst []) = H9 at *
      rw [eqv_nil_l]
      by_cases hjn : js = []
      · subst hjn
        refine ifn rfl ?_
        exact ⟨fs, _, _, rfl, x9, hf9, nd6, in6, by omega, T9.le (by omega), ev9, D9⟩
      · refine ify (by cases js with | nil => exact absurd rfl hjn | cons a b => rfl) ?_
        have hjpos : 1 ≤ js.length := List.length_pos_iff.mpr hjn
        refine ⟨_, rfl, .inl ⟨rfl, _, SqL.of hf9⟩, _, rfl, _, rfl, _, rfl, D2, _, rfl, .inl (SqL.of hj9), tk, _, _, rfl, T9, by omega, by rw [iv_len]; omega, by rw [iv_len]; omega, fun r3 H10 r30 r31 x10 T10 => ?_⟩
        rw [iv_len] at r31
        obtain ⟨jj, rfl⟩ : ∃ jj : Nat, r3 = (jj : Int) := ⟨r3.toNat, by omega⟩
        have hjj : jj < js.length := by omega
        have hpick := hjin js[jj] (List.getElem_mem hjj)
        have hf10 := x10 _ _ nfo hf9
        refine ⟨D2, _, _, _, rfl, rfl, SqL.of (x10 _ _ nD2 hj9), atI_nat (iv_get (List.getElem?_eq_getElem hjj)), fo, _, _, rfl, rfl, hf10, by rw [iv_len]; exact small1000 (by omega), ?_⟩
        refine ⟨fs ++ [js[jj]], _, _, rfl, Exb.mut (x9.trans x10) nfoH, by rw [upd_same, iv_snoc], ?_, fun n hn => ?_, by rw [List.length_append]; show fs.length + 1 ≤ i + 1; omega, ?_, ?_, ?_⟩
        · rw [List.nodup_append]
          exact ⟨nd6, by simp, fun a ha b hb => by rw [List.mem_singleton.mp hb]; exact fun z => hpick.2 (z ▸ ha)⟩
        · rcases List.mem_append.mp hn with z | z
          · exact in6 n z
          · rw [List.mem_singleton.mp z]; exact hpick.1
        · exact (T10.le (by omega)).upd nfo.symm
        · rw [upd_ne nfev.symm]; exact x10 _ _ nev ev9
        · rw [upd_ne nDfo.symm]; exact x10 _ _ nD D9
    · rintro σ H6 ⟨fs, v7, v8, rfl, x6, hf6, nd6, in6, fl6, T6, ev6, D6⟩
      -- return found if found != [] else [0]
      refine ⟨_, rfl, Nat.zero_le _, fun p hp => ⟨_, _, Dp.lst (SqL.of ?_) (dp_ints _ fs), Dp.lst (SqL.of upd_same) .nil, (shp_ints _).1, rfl, _, rfl, ?_⟩⟩
      · rw [upd_ne (ne_of_none hf6 hp)]; exact hf6
      have e7 := Ex.new (o := .lst []) hp
      have hf7 := e7 _ _ hf6
      have T7 := (T6.ex e7).le (show c + 1 + 2 * (1 + r).toNat ≤ c + 13 by omega)
      have x7 := x6.trans (Exb.of e7)
      generalize upd H6 p (.lst []) = H7 at *
      rw [eqv_nil_l]
      by_cases hfn : fs = []
      · subst hfn
        refine ifn rfl ?_
        refine ⟨by show 1 ≤ sizeLine; decide, fun p2 hp2 => ?_⟩
        have hT0 := hT
        have npH : H p2 = none := by
          cases z : H p2 with
          | none => rfl
          | some o =>
            have : p2 ≠ tk := T7.ne hp2
            rw [x7 _ _ this z] at hp2; cases hp2
        refine q p2 [0] _ npH (x7.trans (Exb.of (Ex.new hp2))) upd_same (fun n hn => ?_) (by simp) (Nat.le_refl _) (by decide) (T7.ex (Ex.new hp2))
        rw [List.mem_singleton.mp hn]
        exact ⟨Int.le_refl _, pow_pos2 _⟩
      · refine ify (by cases fs with | nil => exact absurd rfl hfn | cons a b => rfl) ?_
        exact ⟨_, rfl, q fo fs H7 nfoH x7 hf7 (fun n hn => upto_num (in6 n hn)) nd6 (List.length_pos_iff.mpr hfn) (by omega) T7⟩
end
end Sb

namespace Sb
open PySem PySem.Spec PyProof.Rows L2 Evl
section
variable {P : Program} {w : World} {K : PySem.W.Frag} {mg : PySem.Str → Option Value} {base : Heap} {k : Nat} {aP aI : Addr} {t1 t2 t3 : Tok}
/-! ### readings as data -/
def wdS : Wd → PySem.Str
  | .good => "good"
  | .parity => "parity"
  | .brk => "break"
  | .frame => "frame"
theorem wdV_eq (d : Wd) : wdV (some d) = .str (wdS d) := by cases d <;> rfl
def rdD (x : Int × Wd × Int) : PyData := .tuple [.int x.1, .str (wdS x.2.1), .int x.2.2]
theorem can_rd : ∀ L : List (Int × Wd × Int), PyData.canLayAll0 (L.map rdD) = true
  | [] => by simp only [List.map_nil, PyData.canLayAll0]
  | e :: L => by
    have hs : PyData.strOk (wdS e.2.1) = true := by cases e.2.1 <;> decide +kernel
    simp only [List.map_cons, PyData.canLayAll0, rdD, PyData.canLay0, can_rd L, hs]
    rfl
theorem dep_rd : ∀ L : List (Int × Wd × Int), PyData.depthAll (L.map rdD) ≤ 1
  | [] => by simp only [List.map_nil, PyData.depthAll]; omega
  | e :: L => by
    have := dep_rd L
    simp only [List.map_cons, PyData.depthAll, rdD, PyData.depth]
    omega
theorem shp_rd (L : List (Int × Wd × Int)) : SeqAt.shaped (.list (L.map rdD)) = true := by
  unfold SeqAt.shaped
  have := dep_rd L
  simp only [PyData.canLay0, PyData.depth, can_rd, Bool.true_and]
  exact decide_eq_true (by omega)
theorem RdT.dp {H : Hp} : ∀ {rs : List Addr} {xs : List (Int × Wd × Int)}, RdT H rs xs → DpAll K H (rs.map V.ref) (xs.map rdD)
  | [], [], _ => .nil
  | [], _ :: _, h => h.elim
  | _ :: _, [], h => h.elim
  | _ :: _, x :: _, h => by
    have h1 := h.1
    unfold rdV at h1
    rw [wdV_eq] at h1
    exact .cons (.tup (SqT.of h1) (.cons (.int _) (.cons (.str _) (.cons (.int _) .nil)))) (RdT.dp h.2)
theorem rd_refl (L : List (Int × Wd × Int)) : PyData.eqv (.list (L.map rdD)) (.list (L.map rdD)) = true := SeqAt.eqv_refl _ (by
  simp only [PyData.canLay0, can_rd])
theorem RdT.len {H : Hp} : ∀ {rs : List Addr} {xs : List (Int × Wd × Int)}, RdT H rs xs → rs.length = xs.length
  | [], [], _ => rfl
  | [], _ :: _, h => h.elim
  | _ :: _, [], h => h.elim
  | _ :: _, _ :: _, h => congrArg (· + 1) (RdT.len h.2)
theorem RdT.get {H : Hp} : ∀ {rs : List Addr} {xs : List (Int × Wd × Int)} {i : Nat} {r : Addr}, RdT H rs xs → rs[i]? = some r → ∃ x, xs[i]? = some x ∧ H r = some (.tup (rdV x))
  | [], [], _, _, _, e => by simp at e
  | [], _ :: _, _, _, h, _ => h.elim
  | _ :: _, [], _, _, h, _ => h.elim
  | _ :: _, x :: _, 0, _, h, e => by
    have e := Option.some.inj e
    subst e
    exact ⟨x, rfl, h.1⟩
  | _ :: _, _ :: _, i + 1, _, h, e => RdT.get (i := i) h.2 e
/-- [one for one in told if ..] -/
theorem lc_rd {tp D : Addr} {rs : List Addr} {found : List (Int × Wd × Int)} {H : Hp} {σ : L2.St} {tt : TT} {j : Nat} {Qd : Hp → Prop} (Pd : (Int × Wd × Int) → Bool) (hl : H tp = some (.lst (rs.map V.ref))) (hrd : RdT H rs found) (hD : H D = none) (hj : j < σ.length) (hlen : found.length ≤ 900)
    (ht : ∀ x r H', Ex H H' → H' r = some (.tup (rdV x)) → x ∈ found → EvT tt ((wipe σ [j]).set j (some (.ref r))) H' (Pd x))
    (hd : ∀ H' fs, Ex H H' → H' D = some (.lst (fs.map V.ref)) → RdT H' fs (found.filter Pd) → Qd H') :
    ∃ W : Nat → Nat → Hp → Prop, (∃ m, W 0 m (upd H D (.lst []))) ∧ ∀ i m H, W i m H →
      ((Itl K tp).stop i H ∧ Qd H) ∨ ((Itl K tp).go i H ∧ ∃ Nx : Hp → Prop, (∀ H', Nx H' → ∃ m', m' < m ∧ W (i + 1) m' H') ∧ ∀ x H', (Itl K tp).yld i H x H' → gName j x (wipe σ [j]) H' fun σ2 H2 => wipe σ2 [j] = wipe σ [j] ∧ tt σ2 H2 fun b H3 =>
        if b = true then tVar j σ2 H3 fun y H4 => ∃ acc, H4 D = some (.lst acc) ∧ acc.length < sizeLine ∧ Nx (upd H4 D (.lst (acc ++ [y]))) else Nx H3) := by
  have hrl := hrd.len
  refine lc_list (xs := rs.map V.ref) (fun i H' => Ex H H' ∧ ∃ fs : List Addr, H' D = some (.lst (fs.map V.ref)) ∧ fs.length ≤ i ∧ RdT H' fs ((found.take i).filter Pd)) ?_ ?_ ?_ ?_
  · exact ⟨Ex.new hD, [], upd_same, Nat.le_refl _, by rw [List.take_zero]; exact trivial⟩
  · rintro i H' _ ⟨e', _⟩
    exact SqL.of (e' _ _ hl)
  · rintro i x H' hx ⟨e', fs, hfs, hfl, hfr⟩
    rw [List.getElem?_map] at hx
    cases hr : rs[i]? with
    | none => rw [hr] at hx; cases hx
    | some r =>
      rw [hr] at hx
      have hx := Option.some.inj hx
      subst hx
      obtain ⟨x, hxf, hxr⟩ := hrd.get hr
      have hi := (List.getElem?_eq_some_iff.mp hxf).1
      refine ⟨wipe1 σ j _, ?_⟩
      refine ht x r H' e' (e' _ _ hxr) (List.mem_of_getElem? hxf) H' (Ex.refl H') _ fun H3 e3 => ?_
      have hf3 := e3 _ _ hfs
      rw [List.take_add_one, hxf, List.filter_append]
      cases hP : Pd x with
      | true =>
        show (if true = true then _ else _)
        refine iteT ?_
        refine ⟨_, wipe_own σ j _ hj, _, hf3, by rw [List.length_map]; exact small1000 (by omega), Ex.mut (e'.trans e3) hD, fs ++ [r], by rw [upd_same, List.map_append]; rfl, by rw [List.length_append]; show fs.length + 1 ≤ i + 1; omega, ?_⟩
        have : [x].filter Pd = [x] := by rw [List.filter_cons, hP]; rfl
        show RdT _ (fs ++ [r]) (_ ++ [x].filter Pd)
        rw [this]
        exact (RdT.snoc (e3 _ _ (e' _ _ hxr)) (hfr.ex e3)).upd hf3
      | false =>
        show (if false = true then _ else _)
        refine iteF ?_
        have : [x].filter Pd = [] := by rw [List.filter_cons, hP]; rfl
        refine ⟨e'.trans e3, fs, hf3, by omega, ?_⟩
        show RdT _ fs (_ ++ [x].filter Pd)
        rw [this, List.append_nil]
        exact hfr.ex e3
  · rintro H' ⟨e', fs, hfs, hfl, hfr⟩
    rw [List.length_map, hrl, List.take_length] at hfr
    exact hd H' fs e' hfs hfr
/-- a list comprehension over enumerate(a list) -/
theorem lc_enum {l : Addr} {xs : List V} {g : TG} {tt : TT} {te : TE} {vs : List Nat} {σ : L2.St} {H1 : Hp} {D : Addr} {Qd : Hp → Prop} (Pv : Nat → Hp → Prop) (h0 : Pv 0 (upd H1 D (.lst []))) (hl : ∀ i H, i ≤ xs.length → Pv i H → SqL K H l xs)
    (hs : ∀ (i : Nat) x H T, xs[i]? = some x → Pv i H → H T = none → g (.ref T) (wipe σ vs) (upd H T (.tup [.int (i : Int), x])) fun σ2 H2 => wipe σ2 vs = wipe σ vs ∧ tt σ2 H2 fun b H3 =>
      if b = true then te σ2 H3 fun y H4 => ∃ acc, H4 D = some (.lst acc) ∧ acc.length < sizeLine ∧ Pv (i + 1) (upd H4 D (.lst (acc ++ [y]))) else Pv (i + 1) H3) (hd : ∀ H, Pv xs.length H → Qd H) :
    ∃ W : Nat → Nat → Hp → Prop, (∃ m, W 0 m (upd H1 D (.lst []))) ∧ ∀ i m H, W i m H →
      ((Ite K l).stop i H ∧ Qd H) ∨ ((Ite K l).go i H ∧ ∃ Nx : Hp → Prop, (∀ H', Nx H' → ∃ m', m' < m ∧ W (i + 1) m' H') ∧ ∀ x H', (Ite K l).yld i H x H' → g x (wipe σ vs) H' fun σ2 H2 => wipe σ2 vs = wipe σ vs ∧ tt σ2 H2 fun b H3 =>
        if b = true then te σ2 H3 fun y H4 => ∃ acc, H4 D = some (.lst acc) ∧ acc.length < sizeLine ∧ Nx (upd H4 D (.lst (acc ++ [y]))) else Nx H3) := by
  refine ⟨fun i m H => m = xs.length - i ∧ i ≤ xs.length ∧ Pv i H, ⟨xs.length, by simp, Nat.zero_le _, h0⟩, ?_⟩
  rintro i m H ⟨rfl, hi, p⟩
  have q := hl i H hi p
  by_cases hlt : i < xs.length
  · refine .inr ⟨⟨xs, xs[i], q, by simp [hlt]⟩, Pv (i + 1), fun H' p' => ⟨xs.length - (i + 1), by omega, rfl, hlt, p'⟩, fun x H' y => ?_⟩
    obtain ⟨T, z, rfl, hT, rfl, y⟩ := y
    exact hs i z H T (y xs q) p hT
  · have e : i = xs.length := by omega
    subst e
    exact .inl ⟨⟨xs, q, Nat.le_refl _⟩, hd H p⟩
end
end Sb

namespace Sb
open PySem PySem.Spec PyProof.Rows L2 Evl
section
variable {P : Program} {w : World} {K : PySem.W.Frag} {mg : PySem.Str → Option Value} {base : Heap} {k : Nat} {aP aI : Addr} {t1 t2 t3 : Tok}
theorem due_at (h : Shp) (base : Int) (ms : List Int) {i : Nat} {n : Int} (e : ms[i]? = some n) : (due h base ms)[i]? = some (base + h.size * (i : Int), .good, n) := by
  have hi := (List.getElem?_eq_some_iff.mp e).1
  rw [due_map, List.getElem?_map, List.getElem?_range hi]
  show some (base + h.size * (i : Int), Wd.good, ms.getD i 0) = _
  rw [List.getD_eq_getElem?_getD, e]
  rfl
theorem due_len (h : Shp) (base : Int) (ms : List Int) : (due h base ms).length = ms.length := by
  rw [due_map, List.length_map, List.length_range]
theorem runL_flen (h : Shp) : ∀ (ls : List Int) (r : Rns), (runL h r ls).found.length ≤ r.found.length + ls.length
  | [], _ => Nat.le_add_right _ _
  | l :: ls, r => by
    have h1 := runL_flen h ls (rstep h r l)
    have h2 : (rstep h r l).found.length ≤ r.found.length + 1 := by
      show (match (aft h r.st l).2 with | none => r.found | some w => r.found ++ [(if r.st.pl = 0 then r.idx else r.start, w, r.st.nu)]).length ≤ _
      split
      · omega
      · rw [List.length_append]; exact Nat.le_refl _
    show (runL h (rstep h r l) ls).found.length ≤ r.found.length + (ls.length + 1)
    omega
theorem txt01 (h : Shp) (ns : List Int) : ∀ x ∈ txt h ns, x = 0 ∨ x = 1 := fun x hx => by
  obtain ⟨n, _, hn⟩ := List.mem_flatMap.mp hx
  exact frm01 h n x hn
theorem ok__law_step_right {f : Addr} {fd : FuncData} (F : Fun K "_law_step_right" "_law_step_right" s__law_step_right f fd) (B : Bi mg) (C__law_tap : Cal P w K mg base k "_law_tap" ["_law_tank_here", "_law_many"] [] sp_tap) (C__law_numbers : Cal P w K mg base k "_law_numbers" ["_law_shape_here"] [] sp_numbers)
    (C_levels_of : Cal P w K mg base k "levels_of" ["shape", "numbers"] [] sp_levels_of) (C_size_of : Cal P w K mg base k "size_of" ["shape"] [] sp_size_of) (C_parsed : Cal P w K mg base k "parsed" ["shape", "levels", "begin"] [] sp_readings_of) (C_places_along : Cal P w K mg base k "places_along" ["shape", "place", "numbers"] [] sp_places_along) :
    FnOk P w K mg base CX0 (k + 1) f fd ["_law_tank_here", "_law_shape_here", "_law_text"] sp_step_right := by
  refine F.ok sc__law_step_right (fun vs H Q E h => ?_) (fun cdv A outer s H vs Q E hr h => ?_)
  · obtain ⟨tk, c, t, h, l, wd, rfl, _⟩ := h; rfl
  · obtain ⟨tk, c, t, h, l, wd, rfl, hT, hc, S, ok, h11, hl, nl, hn, hw5, hsync, q⟩ := h
    have b9 := ok.b9
    have b1 := ok.b1
    have hp9 : 2 ^ h.b ≤ 512 := Nat.le_trans (Nat.pow_le_pow_right (by decide) b9) (by decide)
    have e2b : ((2 ^ h.b : Nat) : Int) = (2 : Int) ^ h.b := by simp
    have hpp : (0 : Int) < 2 ^ h.b := pow_pos2 _
    -- 0:_law_tank_here 1:_law_shape_here 2:_law_text 3:_law_ahead 4:_law_numbers_here 5:_law_base 6:_law_size 7:_law_told 8:_law_due 9:_law_early 10:_law_turn 11:_law_spot 12:_law_number 13:_law_one 14:_law_place_here
    refine ⟨_, pss_cons (ps_set (i := 3) sc__law_step_right.nd rfl (.inl rfl) (pe_op op_cat (pe_lc (own := [("_law_turn", 10)]) (g := gName 10) (tt := tYes) rfl sc__law_step_right.nd (pi_range1 rfl B.range (pa_cons (pcl C__law_tap hr (pa_cons (pv 0) (pa_cons pe_int pa_nil))) pa_nil)) (blkOk_by (own := [("_law_turn", 10)]) (N := N__law_step_right) (sc := defScope s__law_step_right) (by decide +kernel)) (fun _ _ _ _ _ => (pg_name (i := 10) sc__law_step_right.nd rfl (.inl rfl))) (fun _ _ _ _ _ => pts_nil) (fun _ _ _ _ _ => (pcl C__law_tap hr (pa_cons (pv 0) (pa_cons pe_int pa_nil))))) (pe_lst (pa_cons pe_int pa_nil))))
      (pss_cons (ps_setLc (i := 4) (own := [("_law_turn", 10)]) (g := gName 10) (tt := tYes) rfl sc__law_step_right.nd rfl rfl (sw_true rfl rfl rfl (by decide +kernel)) (pi_range1 rfl B.range (pa_cons (pe_op op_add pe_int (pcl C__law_tap hr (pa_cons (pv 0) (pa_cons pe_int pa_nil)))) pa_nil)) (blkOk_by (own := [("_law_turn", 10)]) (N := N__law_step_right) (sc := defScope s__law_step_right) (by decide +kernel)) (fun _ _ _ _ _ => (pg_name (i := 10) sc__law_step_right.nd rfl (.inl rfl))) (fun _ _ _ _ _ => pts_nil) (fun _ _ _ _ _ => (pcl C__law_tap hr (pa_cons (pv 0) (pa_cons (pcl C__law_numbers hr (pa_cons (pv 1) pa_nil)) pa_nil)))))
      (pss_cons (ps_asg (pe_tup (pa_cons (pe_op op_add (pe_callB call_len_seq rfl B.len PySem.boot_len (pa_cons (pv 3) pa_nil)) (pe_callB call_len_seq rfl B.len PySem.boot_len (pa_cons (pcl C_levels_of hr (pa_cons (pv 1) (pa_cons (pv 2) pa_nil))) pa_nil))) (pa_cons (pcl C_size_of hr (pa_cons (pv 1) pa_nil)) pa_nil))) (pg_tup rfl (pgs_cons (pg_name (i := 5) sc__law_step_right.nd rfl (.inr rfl)) (pgs_cons (pg_name (i := 6) sc__law_step_right.nd rfl (.inr rfl)) pgs_nil))))
      (pss_cons (ps_set (i := 7) sc__law_step_right.nd rfl (.inl rfl) (pcl C_parsed hr (pa_cons (pv 1) (pa_cons (pe_op op_cat (pe_op op_cat (pv 3) (pcl C_levels_of hr (pa_cons (pv 1) (pa_cons (pv 2) pa_nil)))) (pcl C_levels_of hr (pa_cons (pv 1) (pa_cons (pv 4) pa_nil)))) (pa_cons pe_int pa_nil)))))
      (pss_cons (ps_setLc (i := 8) (own := [("_law_spot", 11), ("_law_number", 12)]) (tt := tYes) (g := gTup K 2 (gCons (gName 11) (gCons (gName 12) gNil))) rfl sc__law_step_right.nd rfl rfl (sw_true rfl rfl rfl (by decide +kernel)) (pi_enum rfl B.enumerate (pa_cons (pv 4) pa_nil)) (blkOk_by (own := [("_law_spot", 11), ("_law_number", 12)]) (N := N__law_step_right) (sc := defScope s__law_step_right) (by decide +kernel)) (fun _ _ _ _ _ => (pg_tup rfl (pgs_cons (pg_name (i := 11) sc__law_step_right.nd rfl (.inl rfl)) (pgs_cons (pg_name (i := 12) sc__law_step_right.nd rfl (.inl rfl)) pgs_nil)))) (fun _ _ _ _ _ => pts_nil) (fun _ _ _ _ _ => (pe_tup (pa_cons (pe_op op_add (pv 5) (pe_op op_mul (pv 6) (pv 11))) (pa_cons pe_str (pa_cons (pv 12) pa_nil))))))
      (pss_cons (ps_if (pt_cmpR (op_neD hr.units) (pe_lc (own := [("_law_one", 13)]) (g := gName 13) (tt := tTest (tOp (rI0 fun i j => .bl (decide (j ≤ i))) (tOp (rIxT K) (tVar 13) (tC (.int 0))) (tVar 5))) rfl sc__law_step_right.nd (pi_list (pv 7)) (blkOk_by (own := [("_law_one", 13)]) (N := N__law_step_right) (sc := defScope s__law_step_right) (by decide +kernel)) (fun _ _ _ _ _ => (pg_name (i := 13) sc__law_step_right.nd rfl (.inl rfl))) (fun _ _ _ _ _ => (pts_one (pt_cmpR op_ge (pe_ix ix_tup (pv 13) pe_int (fun _ _ => rfl)) (pv 5) (nomark _)))) (fun _ _ _ _ _ => (pv 13))) (pv 8) (nomark _)) (pss_one (ps_ret pe_bl)) pss_nil)
      (pss_cons (ps_setLc (i := 9) (own := [("_law_one", 13)]) (g := gName 13) (tt := tTest (tOp (rI0 fun i j => .bl (decide (i < j))) (tOp (rIxT K) (tVar 13) (tC (.int 0))) (tVar 5))) rfl sc__law_step_right.nd rfl rfl (sw_true rfl rfl rfl (by decide +kernel)) (pi_list (pv 7)) (blkOk_by (own := [("_law_one", 13)]) (N := N__law_step_right) (sc := defScope s__law_step_right) (by decide +kernel)) (fun _ _ _ _ _ => (pg_name (i := 13) sc__law_step_right.nd rfl (.inl rfl))) (fun _ _ _ _ _ => (pts_one (pt_cmpR op_lt (pe_ix ix_tup (pv 13) pe_int (fun _ _ => rfl)) (pv 5) (nomark _)))) (fun _ _ _ _ _ => (pv 13)))
      (pss_cons (ps_if (pt_cmpR (op_neD hr.units) (pe_lc (own := [("_law_one", 13)]) (g := gName 13) (tt := tTest (tOp (rI0 fun i j => .bl (decide (j < i))) (tOp (rI0 fun i j => .int (i + j)) (tOp (rI0 fun i j => .int (i + j)) (tOp (rIxT K) (tVar 13) (tC (.int 0))) (tOp (rIxT K) (tVar 1) (tC (.int 0)))) (tC (.int 2))) (tVar 5))) rfl sc__law_step_right.nd (pi_list (pv 9)) (blkOk_by (own := [("_law_one", 13)]) (N := N__law_step_right) (sc := defScope s__law_step_right) (by decide +kernel)) (fun _ _ _ _ _ => (pg_name (i := 13) sc__law_step_right.nd rfl (.inl rfl))) (fun _ _ _ _ _ => (pts_one (pt_cmpR op_gt (pe_op op_add (pe_op op_add (pe_ix ix_tup (pv 13) pe_int (fun _ _ => rfl)) (pe_ix ix_tup (pv 1) pe_int (fun _ _ => rfl))) pe_int) (pv 5) (nomark _)))) (fun _ _ _ _ _ => (pv 13))) (pe_lst pa_nil) (nomark _)) (pss_one (ps_ret pe_bl)) pss_nil)
      (pss_one (ps_ret (pe_cmpR (op_eqD hr.units) (pe_lc (own := [("_law_place_here", 14)]) (g := gName 14) (tt := tTest (tOp rNe (tOp (rIxL K) (tCall sp_places_along [] E0 (tCons (tVar 1) (tCons (tVar 14) (tCons (tVar 2) tNil)))) (tUn (rU fun i => .int (-i)) (tC (.int 1)))) (tC (.int 0)))) rfl sc__law_step_right.nd (pi_range1 rfl B.range (pa_cons (pv 6) pa_nil)) (blkOk_by (own := [("_law_place_here", 14)]) (N := N__law_step_right) (sc := defScope s__law_step_right) (by decide +kernel)) (fun _ _ _ _ _ => (pg_name (i := 14) sc__law_step_right.nd rfl (.inl rfl))) (fun _ _ _ _ _ => (pts_one (pt_cmpR op_ne (pe_ix ix_list (pcl C_places_along hr (pa_cons (pv 1) (pa_cons (pv 14) (pa_cons (pv 2) pa_nil)))) (pe_un un_neg pe_int) (fun _ _ => rfl)) pe_int (nomark _)))) (fun _ _ _ _ _ => (pv 14))) (pe_lst pa_nil) (nomark _))))))))))), ?_⟩
    -- ahead
    refine ⟨_, rfl, tk, c, 40, rfl, hT, by omega, by decide, by decide, fun r H1 r0 r1 x1 T1 => ⟨r, rfl, by omega, by omega, fun D hD => lc_range (lo := 0) (n := r.toNat) (fun i H' => Exb tk H H' ∧ TankAt H' tk (c + 1 + i) ∧ ∃ as : List Int, H' D = some (.lst (iv as)) ∧ as.length = i ∧ ∀ x ∈ as, x = 0 ∨ x = 1) ?_ ?_ ?_⟩⟩
    · have nD := T1.ne hD
      exact ⟨x1.trans (Exb.of (Ex.new hD)), T1.ex (Ex.new hD), [], upd_same, rfl, fun x hx => nomatch hx⟩
    · rintro i H' hi ⟨x', T', as, has, hal, h01⟩
      have nD := T1.ne hD
      have nDH : H D = none := by
        cases z : H D with
        | none => rfl
        | some o => rw [x1 _ _ nD z] at hD; cases hD
      refine ⟨rfl, ?_⟩
      refine yes_if ?_
      refine ⟨_, rfl, tk, _, 2, rfl, T', by omega, by decide, by decide, fun r2 H2 r20 r21 x2 T2 => ?_⟩
      have has2 := x2 _ _ nD has
      refine ⟨_, has2, by rw [iv_len]; exact small1000 (by omega), Exb.mut (x'.trans x2) nDH, (T2.le (by omega)).upd nD.symm, as ++ [r2], by rw [upd_same, iv_snoc], by rw [List.length_append, hal]; rfl, fun x hx => ?_⟩
      rcases List.mem_append.mp hx with z | z
      · exact h01 x z
      · rw [List.mem_singleton.mp z]; omega
    rintro H2 ⟨x2, T2, as, has, hal, h01⟩
    have nD := T1.ne hD
    refine ⟨by show 1 ≤ sizeLine; decide, fun p1 hp1 => ⟨D, p1, _, _, rfl, rfl, Ex.new hp1 _ _ has, upd_same, ?_, fun pa hpa => ?_⟩⟩
    · rw [iv_len]; exact Nat.le_of_lt (small1000 (show as.length + 1 ≤ 1000 by omega))
    have y1 := Ex.new (o := .lst [.int 1]) hp1
    have y2 := Ex.new (o := .lst (iv as ++ [V.int 1])) hpa
    have hpa3 : (upd (upd H2 p1 (.lst [.int 1])) pa (.lst (iv as ++ [V.int 1]))) pa = some (.lst (iv (as ++ [1]))) := by rw [upd_same, iv_snoc]
    have npa : pa ≠ tk := (T2.ex y1).ne hpa
    have T3 := T2.ex (y1.trans y2)
    have x3 := x2.trans (Exb.of (y1.trans y2))
    generalize upd (upd H2 p1 (.lst [.int 1])) pa (.lst (iv as ++ [V.int 1])) = H3 at *
    -- numbers
    refine ⟨_, rfl, tk, _, 5, rfl, T3, by omega, by decide, by decide, fun r4 H4 r40 r41 x4' T4 => ⟨_, _, rfl, rfl, _, rfl, by omega, by omega, fun D2 hD2 => lc_range (lo := 0) (n := (1 + r4).toNat) (fun i H' => Exb tk H4 H' ∧ TankAt H' tk (c + 41 + 1 + i) ∧ ∃ ms : List Int, H' D2 = some (.lst (iv ms)) ∧ ms.length = i ∧ NumOk h ms) ?_ ?_ ?_⟩⟩
    · exact ⟨Exb.of (Ex.new hD2), (T4.le (by omega)).ex (Ex.new hD2), [], upd_same, rfl, fun x hx => nomatch hx⟩
    · rintro i H' hi ⟨x', T', ms, hms, hml, hmn⟩
      have nD2 := T4.ne hD2
      refine ⟨rfl, ?_⟩
      refine yes_if ?_
      have S' : ShT H' t h := (S.exb hT x3 |>.exb T3 x4').exb T4 x'
      refine ⟨_, rfl, _, rfl, t, h, rfl, S', ok, fun H5 e5 => ?_⟩
      refine ⟨tk, _, _, rfl, T'.ex e5, by omega, by omega, by rw [← e2b]; omega, fun r6 H6 r60 r61 x6 T6 => ?_⟩
      have hms6 := x6 _ _ nD2 (e5 _ _ hms)
      refine ⟨_, hms6, by rw [iv_len]; exact small1000 (by omega), Exb.mut (x'.trans ((Exb.of e5).trans x6)) hD2, (T6.le (by omega)).upd nD2.symm, ms ++ [r6], by rw [upd_same, iv_snoc], by rw [List.length_append, hml]; rfl, fun x hx => ?_⟩
      rcases List.mem_append.mp hx with z | z
      · exact hmn x z
      · rw [List.mem_singleton.mp z]; exact ⟨r60, r61⟩
    rintro H5 ⟨x5', T5, ms, hms, hml, hmn⟩
    have nD2 := T4.ne hD2
    have x35 := x4'.trans x5'
    have x5 := x3.trans x35
    have T5' : TankAt H5 tk (c + 50) := T5.le (by omega)
    have S5 : ShT H5 t h := S.exb hT x5
    have hl5 := x5 _ _ nl hl
    have hpa5 := x35 _ _ npa hpa3
    have hml5 : ms.length ≤ 5 := by omega
    have hal5 : as.length ≤ 39 := by omega
    -- from here on the heap only grows
    have fin : ∀ H', Ex H5 H' → Q (.bl true) H' := fun H' e => q H' (x5.trans (Exb.of e)) (T5'.ex e)
    -- base, size
    refine ⟨_, rfl, pa, _, rfl, .inl (SqL.of hpa5), _, rfl, _, rfl, t, h, l, wd, rfl, S5, ok, hl5, hn, by omega, fun lv H6 hlv e6 hlv6 => ⟨lv, _, rfl, .inl (SqL.of hlv6), _, _, rfl, rfl, _, rfl, t, h, rfl, S5.ex e6, ok, fun H7 e7' => ?_⟩⟩
    refine ⟨by show 2 ≤ sizeLine; decide, fun tu htu => ⟨tu, _, rfl, SqT.of upd_same, rfl, _, _, rfl, _, _, rfl, rfl, ?_⟩⟩
    have e7 := (e6.trans e7').trans (Ex.new (o := .tup [.int (((iv (as ++ [1])).length : Int) + ((iv (txt h wd)).length : Int)), .int (h.size : Int)]) htu)
    have ebase : (((iv (as ++ [1])).length : Int) + ((iv (txt h wd)).length : Int)) = (((as ++ [1]).length + (txt h wd).length : Nat) : Int) := by rw [iv_len, iv_len]; omega
    have hbl : (as ++ [1]).length + (txt h wd).length ≤ 700 := by
      rw [List.length_append, txt_len]
      have : wd.length * h.size ≤ 55 * 11 := Nat.mul_le_mul hw5 h11
      show as.length + 1 + _ ≤ 700
      omega
    show tSeq _ _ _ [_, _, _, _, _, some (.int (((iv (as ++ [1])).length : Int) + ((iv (txt h wd)).length : Int))), _, _, _, _, _, _, _, _, _] (upd H7 tu (.tup [.int (((iv (as ++ [1])).length : Int) + ((iv (txt h wd)).length : Int)), .int (h.size : Int)]))
    generalize upd H7 tu (.tup [.int (((iv (as ++ [1])).length : Int) + ((iv (txt h wd)).length : Int)), .int (h.size : Int)]) = H8 at *
    rw [ebase]
    obtain ⟨early, hfound, hearly⟩ := parse_law ok (ahead := as) (t := wd) (ns := ms) hsync hmn
    have hbase : (((as ++ [1]).length + (txt h wd).length : Nat) : Int) = ((((as ++ [1]).length + (txt h wd).length : Nat) : Int)) := rfl
    generalize hbs : (((as ++ [1]).length + (txt h wd).length : Nat) : Int) = bs at *
    -- told
    have hpa8 := e7 _ _ hpa5
    refine ⟨_, rfl, _, rfl, _, rfl, _, rfl, t, h, l, wd, rfl, S5.ex e7, ok, e7 _ _ hl5, hn, by omega, fun lv1 H9 hlv1 e9 hlv19 => ⟨pa, lv1, _, _, rfl, rfl, e9 _ _ hpa8, hlv19, ?_, fun c1 hc1 => ?_⟩⟩
    · rw [iv_len, iv_len]; exact Nat.le_of_lt (small1000 (by omega))
    have y3 := Ex.new (o := .lst (iv (as ++ [1]) ++ iv (txt h wd))) hc1
    have e10 := (e7.trans e9).trans y3
    refine ⟨_, rfl, _, rfl, t, h, D2, ms, rfl, S5.ex e10, ok, e10 _ _ hms, hmn, by omega, fun lv2 H11 hlv2 e11 hlv211 => ⟨c1, lv2, _, _, rfl, rfl, e11 _ _ upd_same, hlv211, ?_, fun c2 hc2 => ?_⟩⟩
    · rw [List.length_append, iv_len, iv_len, iv_len, txt_len h ms]
      have : ms.length * h.size ≤ 5 * 11 := Nat.mul_le_mul hml5 h11
      exact Nat.le_of_lt (small1000 (by omega))
    have y4 := Ex.new (o := .lst (iv (as ++ [1]) ++ iv (txt h wd) ++ iv (txt h ms))) hc2
    have e12 := (e10.trans e11).trans y4
    refine ⟨t, h, c2, (as ++ [1]) ++ txt h wd ++ txt h ms, rfl, S5.ex e12, ok, by rw [upd_same, iv_app (as ++ [1] ++ txt h wd), iv_app (as ++ [1]) (txt h wd)], ?_, ?_, fun tp rs H13 htp e13' htp13 hrd => ?_⟩
    · intro x hx
      rcases List.mem_append.mp hx with z | z
      · rcases List.mem_append.mp z with z | z
        · rcases List.mem_append.mp z with z | z
          · exact h01 x z
          · exact .inr (List.mem_singleton.mp z)
        · exact txt01 h wd x z
      · exact txt01 h ms x z
    · rw [List.length_append, List.length_append, txt_len h ms]
      have : ms.length * h.size ≤ 5 * 11 := Nat.mul_le_mul hml5 h11
      omega
    rw [hfound] at hrd
    have e13 := e12.trans e13'
    have hms13 := e13 _ _ hms
    have hflen : (early ++ due h bs ms).length ≤ 900 := by
      rw [← hfound]
      have h1 := runL_flen h (as ++ [1] ++ txt h wd ++ txt h ms ++ List.replicate h.size 1) rns0
      rw [List.length_append, List.length_append, List.length_append, List.length_replicate, txt_len h ms] at h1
      have h2 : ms.length * h.size ≤ 5 * 11 := Nat.mul_le_mul hml5 h11
      have h3 : rns0.found.length = 0 := rfl
      omega
    show tSeq _ _ _ [_, _, _, _, _, _, _, some (.ref tp), _, _, _, _, _, _, _] _
    have hsz : -(2 ^ 64 : Int) < (h.size : Int) ∧ (h.size : Int) < 2 ^ 64 := ⟨by omega, by omega⟩
    have hdl := due_len h bs ms
    refine ⟨_, rfl, D2, iv ms, rfl, SqL.of hms13, fun D5 hD5 => lc_enum (xs := iv ms) (fun i H' => Ex H13 H' ∧ ∃ fs : List Addr, H' D5 = some (.lst (fs.map V.ref)) ∧ fs.length = i ∧ RdT H' fs ((due h bs ms).take i)) ?_ ?_ ?_ ?_⟩
    · exact ⟨Ex.new hD5, [], upd_same, rfl, by rw [List.take_zero]; exact trivial⟩
    · rintro i H' _ ⟨e', _⟩
      exact SqL.of (e' _ _ hms13)
    · rintro i x H' T hx ⟨e', fs, hfs, hfl, hfr⟩ hT
      obtain ⟨n, hn', rfl⟩ := iv_at hx
      have hD := due_at h bs ms hn'
      have hi := (List.getElem?_eq_some_iff.mp hn').1
      have y1 := Ex.new (o := .tup [.int (i : Int), .int n]) hT
      refine ⟨T, _, rfl, SqT.of upd_same, rfl, _, _, rfl, _, _, rfl, rfl, rfl, ?_⟩
      refine yes_if ?_
      refine ⟨_, rfl, _, rfl, _, rfl, _, _, rfl, rfl, .inl hsz, _, _, rfl, rfl, _, rfl, ⟨by show 3 ≤ sizeLine; decide, fun q hq => ?_⟩⟩
      have y2 := y1.trans (Ex.new (o := .tup [.int (bs + (h.size : Int) * (i : Int)), .str "good", .int n]) hq)
      have hf3 := y2 _ _ hfs
      refine ⟨_, hf3, by rw [List.length_map]; exact small1000 (by omega), Ex.mut (e'.trans y2) hD5, fs ++ [q], by rw [upd_same, List.map_append]; rfl, by rw [List.length_append, hfl]; rfl, ?_⟩
      rw [List.take_add_one, hD]
      show RdT _ (fs ++ [q]) (_ ++ [(bs + (h.size : Int) * (i : Int), Wd.good, n)])
      exact (RdT.snoc (x := (bs + (h.size : Int) * (i : Int), Wd.good, n)) upd_same (hfr.ex y2)).upd hf3
    rintro H14 ⟨e14', ds, hds, hdsl, hdr⟩
    rw [iv_len, ← hdl, List.take_length] at hdr
    have hdl5 : ds.length ≤ 5 := by rw [iv_len] at hdsl; omega
    show tSeq _ _ _ [_, _, _, _, _, _, _, some (.ref tp), some (.ref D5), _, _, _, _, _, _] _
    have e14 := e13.trans e14'
    have htp14 := e14' _ _ htp13
    have hrd14 := hrd.ex e14'
    -- late
    refine ⟨_, rfl, tp, rfl, ⟨_, SqL.of htp14⟩, fun D6 hD6 => lc_rd (fun x => decide (bs ≤ x.1)) htp14 hrd14 hD6 (by show 13 < 15; decide) hflen ?_ ?_⟩
    · exact fun x r H' e' hr _ H2 e2 R hR => ⟨_, rfl, r, _, 0, _, rfl, rfl, SqT.of (e2 _ _ hr), rfl, _, rfl, _, _, rfl, rfl, _, rfl, hR _ (Ex.refl _)⟩
    intro H15 ls e15' hls hlr
    rw [told_late b1 hearly] at hlr
    refine ⟨_, rfl, _, _, Dp.lst (SqL.of hls) (RdT.dp hlr), Dp.lst (SqL.of (e15' _ _ hds)) (RdT.dp (hdr.ex e15')), shp_rd _, shp_rd _, _, rfl, ifn (by rw [rd_refl]; rfl) ?_⟩
    have htp15 := e15' _ _ htp14
    have hrd15 := hrd14.ex e15'
    have e15 := e14.trans e15'
    -- early
    refine ⟨_, rfl, tp, rfl, ⟨_, SqL.of htp15⟩, fun D7 hD7 => lc_rd (fun x => decide (x.1 < bs)) htp15 hrd15 hD7 (by show 13 < 15; decide) hflen ?_ ?_⟩
    · exact fun x r H' e' hr _ H2 e2 R hR => ⟨_, rfl, r, _, 0, _, rfl, rfl, SqT.of (e2 _ _ hr), rfl, _, rfl, _, _, rfl, rfl, _, rfl, hR _ (Ex.refl _)⟩
    intro H16 es e16' hes her
    rw [told_early b1 hearly] at her
    have e16 := e15.trans e16'
    have helen : early.length ≤ 900 := by
      rw [List.length_append] at hflen; omega
    refine ⟨_, rfl, D7, rfl, ⟨_, SqL.of hes⟩, fun D8 hD8 => lc_rd (fun x => decide (bs < x.1 + h.b + 2)) hes her hD8 (by show 13 < 15; decide) helen ?_ ?_⟩
    · exact fun x r H' e' hr _ H2 e2 R hR => ⟨_, rfl, r, _, 0, _, rfl, rfl, SqT.of (e2 _ _ hr), rfl, _, rfl, t, _, 0, _, rfl, rfl, (S5.ex (e16.trans (e'.trans e2))).q, rfl, _, _, rfl, rfl, _, _, rfl, rfl, _, rfl, _, _, rfl, rfl, _, rfl, hR _ (Ex.refl _)⟩
    intro H17 gs e17' hgs hgr
    have hnil : early.filter (fun x => decide (bs < x.1 + h.b + 2)) = [] := List.filter_eq_nil_iff.mpr fun x hx => by
      have := hearly x hx
      simp
      omega
    rw [hnil] at hgr
    refine ⟨Nat.zero_le _, fun p8 hp8 => ⟨_, _, Dp.lst (SqL.of (Ex.new hp8 _ _ hgs)) (RdT.dp (hgr.ex (Ex.new hp8))), Dp.lst (SqL.of upd_same) .nil, shp_rd _, rfl, _, rfl, ifn (by rw [eqv_nil_l]; rfl) ?_⟩⟩
    have e17 := (e16.trans e17').trans (Ex.new (o := .lst []) hp8)
    generalize upd H17 p8 (.lst []) = H18 at *
    have hl18 := e17 _ _ hl5
    have S18 := S5.ex e17
    refine ⟨_, rfl, _, rfl, by omega, by omega, fun D9 hD9 => lc_range (lo := 0) (n := (h.size : Int).toNat) (fun i H' => Ex H18 H' ∧ H' D9 = some (.lst [])) ?_ ?_ ?_⟩
    · exact ⟨Ex.new hD9, upd_same⟩
    · rintro i H' hi ⟨e', hD⟩
      refine ⟨rfl, ?_⟩
      refine ⟨_, rfl, _, rfl, _, rfl, t, h, _, l, wd, rfl, S18.ex e', ok, by omega, by omega, e' _ _ hl18, hn, by omega, fun q zs H2 hq e2 hq2 => ⟨_, rfl, q, _, _, _, rfl, rfl, SqL.of hq2, (by rw [iv_snoc]; exact atI_last _ _), rfl, _, rfl, ifNI (fun z => absurd (hsync _ (by omega) (by omega)) z) fun _ => ⟨e'.trans e2, e2 _ _ hD⟩⟩⟩
    rintro H19 ⟨e19, hD⟩
    refine ⟨Nat.zero_le _, fun p9 hp9 => ⟨_, _, Dp.lst (SqL.of (Ex.new hp9 _ _ hD)) .nil, Dp.lst (SqL.of upd_same) .nil, rfl, rfl, ?_⟩⟩
    rw [eqv_nil_l]
    exact fin _ ((e17.trans e19).trans (Ex.new hp9))
end
end Sb

namespace Sb
open PySem PySem.Spec PyProof.Rows L2 Evl
section
variable {P : Program} {w : World} {K : PySem.W.Frag} {mg : PySem.Str → Option Value} {base : Heap} {k : Nat} {aP aI : Addr} {t1 t2 t3 : Tok}
theorem ok__law_right {f : Addr} {fd : FuncData} (F : Fun K "_law_right" "_law_right" s__law_right f fd) (B : Bi mg) (C_step_text : Cal P w K mg base k "step_text" ["shape", "numbers"] [] sp_step_text) (C__law_step_right : Cal P w K mg base k "_law_step_right" ["_law_tank_here", "_law_shape_here", "_law_text"] [] sp_step_right)
    (C__law_tap : Cal P w K mg base k "_law_tap" ["_law_tank_here", "_law_many"] [] sp_tap) (C_size_of : Cal P w K mg base k "size_of" ["shape"] [] sp_size_of) (C_place_behind : Cal P w K mg base k "place_behind" ["shape", "place", "numbers"] [] sp_place_behind) :
    FnOk P w K mg base CX0 (k + 1) f fd ["_law_tank_here", "_law_shape_here", "_law_numbers_here"] sp_right := by
  refine F.ok sc__law_right (fun vs H Q E h => ?_) (fun cdv A outer s H vs Q E hr h => ?_)
  · obtain ⟨tk, c, t, h, l, ns, rfl, _⟩ := h; rfl
  · obtain ⟨tk, c, t, h, l, ns, rfl, hT, hc, S, ok, h11, hl, nl, hn, hnd, h1, h6, q⟩ := h
    -- 0:_law_tank_here 1:_law_shape_here 2:_law_numbers_here 3:_law_text 4:_law_turn 5:_law_some 6:_law_lap 7:_law_place_here 8:_law_number
    refine ⟨_, pss_cons (ps_set (i := 3) sc__law_right.nd rfl (.inl rfl) (pcl C_step_text hr (pa_cons (pv 1) (pa_cons (pv 2) pa_nil))))
      (pss_cons (ps_if (pt_cmpR op_notN (pv 3) pe_non (nomark _)) (pss_cons (ps_if (PW.pt (pw_or (pt_cmpR (op_eqD hr.units) (pv 3) (pe_lst pa_nil) (nomark _)) (pw_or1 (pt_cmpR (op_neD hr.units) (pe_lc (own := [("_law_number", 8)]) (g := gName 8) (tt := tTest (tOp (rIn K true) (tVar 8) (tVar 2))) rfl sc__law_right.nd (pi_list (pv 3)) (blkOk_by (own := [("_law_number", 8)]) (N := N__law_right) (sc := defScope s__law_right) (by decide +kernel)) (fun _ _ _ _ _ => (pg_name (i := 8) sc__law_right.nd rfl (.inl rfl))) (fun _ _ _ _ _ => (pts_one (pt_cmpR op_notIn_seq (pv 8) (pv 2) (by rfl)))) (fun _ _ _ _ _ => (pv 8))) (pe_lst pa_nil) (nomark _))))) (pss_one (ps_ret pe_bl)) pss_nil)
      (pss_one (ps_ret (pcl C__law_step_right hr (pa_cons (pv 0) (pa_cons (pv 1) (pa_cons (pv 3) pa_nil))))))) pss_nil)
      (pss_cons (ps_for PassesOwn.never rfl (pi_range1 rfl B.range (pa_cons pe_int pa_nil)) (pg_name (i := 4) sc__law_right.nd rfl (.inl rfl)) (pss_cons (ps_set (i := 5) sc__law_right.nd rfl (.inr rfl) (pe_lc (own := [("_law_lap", 6)]) (g := gName 6) (tt := tYes) (te := tOp (rIxL K) (tVar 2) (tCall sp_tap [] E0 (tCons (tVar 0) (tCons (tCB (rLenS K) (tCons (tVar 2) tNil)) tNil)))) rfl sc__law_right.nd (pi_range1 rfl B.range (pa_cons (pe_op op_add pe_int (pcl C__law_tap hr (pa_cons (pv 0) (pa_cons pe_int pa_nil)))) pa_nil)) (blkOk_by (own := [("_law_lap", 6)]) (N := N__law_right) (sc := defScope s__law_right) (by decide +kernel)) (fun _ _ _ _ _ => (pg_name (i := 6) sc__law_right.nd rfl (.inl rfl))) (fun _ _ _ _ _ => pts_nil) (fun _ _ _ _ _ => (pe_ix ix_list (pv 2) (pcl C__law_tap hr (pa_cons (pv 0) (pa_cons (pe_callB call_len_seq rfl B.len PySem.boot_len (pa_cons (pv 2) pa_nil)) pa_nil))) (fun _ _ => rfl)))))
      (pss_one (ps_if (pt_cmpR (op_eqD hr.units) (pe_lc (own := [("_law_place_here", 7)]) (g := gName 7) rfl sc__law_right.nd (pi_range2 rfl B.range (pa_cons pe_int (pa_cons (pcl C_size_of hr (pa_cons (pv 1) pa_nil)) pa_nil))) (blkOk_by (own := [("_law_place_here", 7)]) (N := N__law_right) (sc := defScope s__law_right) (by decide +kernel)) (fun _ _ _ _ _ => (pg_name (i := 7) sc__law_right.nd rfl (.inl rfl))) (fun _ _ _ _ _ => (pts_one (pt_cmpR op_ne (pcl C_place_behind hr (pa_cons (pv 1) (pa_cons (pv 7) (pa_cons (pv 5) pa_nil)))) pe_int (nomark _)))) (fun _ _ _ _ _ => (pv 7))) (pe_lst pa_nil) (nomark _)) (pss_one (ps_ret pe_bl)) pss_nil))))
      (pss_one (ps_ret pe_bl)))), ?_⟩
    refine ⟨_, rfl, _, rfl, t, h, l, ns, rfl, S, ok, h11, hl, hn, hnd, h1, by omega, fun x w H1 hx e1 hx1 hwn hwin hw5 hsync => ?_, fun H1 e1 hno => ?_⟩
    · -- a text that ends in step
      have T1 := hT.ex e1
      have nx : x ≠ tk := hT.ne hx
      have hl1 := e1 _ _ hl
      refine ⟨_, rfl, rfl, _, rfl, ify rfl ?_⟩
      refine ⟨_, rfl, Nat.zero_le _, fun p hp => ⟨_, _, Dp.lst (SqL.of (Ex.new hp _ _ hx1)) (dp_ints _ w), Dp.lst (SqL.of upd_same) .nil, (shp_ints _).1, rfl, _, rfl, ?_⟩⟩
      rw [eqv_nil_l]
      refine ifn (by cases w with | nil => exact absurd rfl hwn | cons a b => rfl) ?_
      have e2 := e1.trans (Ex.new (o := .lst []) hp)
      have hx2 := Ex.new (o := .lst []) hp _ _ hx1
      have hl2 := Ex.new (o := .lst []) hp _ _ hl1
      generalize upd H1 p (.lst []) = H2 at *
      refine ⟨_, rfl, x, rfl, ⟨_, SqL.of hx2⟩, fun D hD => lc_list (xs := iv w) (fun i H' => Ex H2 H' ∧ H' D = some (.lst [])) ?_ ?_ ?_ ?_⟩
      · exact ⟨Ex.new hD, upd_same⟩
      · rintro i H' _ ⟨e', _⟩
        exact SqL.of (e' _ _ hx2)
      · rintro i v H' hv ⟨e', hD'⟩
        obtain ⟨n, hmn, rfl⟩ := iv_at hv
        refine ⟨rfl, ?_⟩
        refine ⟨_, rfl, _, rfl, l, _, rfl, .inl (SqL.of (e' _ _ hl2)), rfl, iv_flat _, _, rfl, ifn ?_ ⟨e', hD'⟩⟩
        rw [if_pos rfl, iv_in, decide_eq_true (hwin n (List.mem_of_getElem? hmn))]
        rfl
      rintro H3 ⟨e3, hD⟩
      have e4' := e3.trans (Ex.refl H3)
      refine ⟨Nat.zero_le _, fun p2 hp2 => ⟨_, _, Dp.lst (SqL.of (Ex.new hp2 _ _ hD)) .nil, Dp.lst (SqL.of upd_same) .nil, rfl, rfl, _, rfl, ifn (by rw [eqv_nil_l]; rfl) ?_⟩⟩
      have e4 := e2.trans (e3.trans (Ex.new (o := .lst []) hp2))
      have hx4 := (e3.trans (Ex.new (o := .lst []) hp2)) _ _ hx2
      generalize upd H3 p2 (.lst []) = H4 at *
      refine ⟨_, rfl, _, rfl, _, rfl, tk, c, t, h, x, w, rfl, hT.ex e4, by omega, S.ex e4, ok, h11, hx4, nx, fun n hn' => hn n (hwin n hn'), hw5, hsync, fun H5 x5 T5 => ?_⟩
      exact q H5 ((Exb.of e4).trans x5) T5
    · -- none
      refine ⟨_, rfl, rfl, _, rfl, ifn rfl ?_⟩
      refine ⟨4, rfl, by decide, by decide, ?_⟩
      refine for_range (lo := 0) (n := (4 : Int).toNat) (fun i σ H' => ∃ (v4 v5 : Option V), σ = [some (.ref tk), some (.ref t), some (.ref l), some .non, v4, v5, none, none, none] ∧ Exb tk H H' ∧ TankAt H' tk (c + 10 * i)) ?_ ?_ ?_
      · exact ⟨none, none, rfl, Exb.of e1, hT.ex e1⟩
      · rintro i σ H2 hi ⟨v4, v5, rfl, x2, T2⟩
        have hi4 : i < 4 := hi
        have hl2 := x2 _ _ nl hl
        have hlen : ((iv ns).length : Int) = (ns.length : Int) := by rw [iv_len]
        refine ⟨_, rfl, tk, _, 9, rfl, T2, by omega, by decide, by decide, fun r H3 r0 r1 x3 T3 => ⟨_, _, rfl, rfl, _, rfl, by omega, by omega, fun D hD => lc_range (lo := 0) (n := (1 + r).toNat) (fun i' H' => Exb tk H3 H' ∧ TankAt H' tk (c + 10 * i + 1 + i') ∧ ∃ ss : List Int, H' D = some (.lst (iv ss)) ∧ ss.length = i' ∧ ∀ n ∈ ss, n ∈ ns) ?_ ?_ ?_⟩⟩
        · exact ⟨Exb.of (Ex.new hD), T3.ex (Ex.new hD), [], upd_same, rfl, fun n hn' => nomatch hn'⟩
        · rintro i' H' hi' ⟨x', T', ss, hss, hsl, hsn⟩
          have nD := T3.ne hD
          have hl' := x' _ _ nl (x3 _ _ nl hl2)
          refine ⟨rfl, ?_⟩
          refine yes_if ?_
          refine ⟨_, rfl, _, rfl, _, rfl, l, _, rfl, .inl (SqL.of hl'), tk, _, _, rfl, T', by omega, by rw [hlen]; omega, by rw [hlen]; omega, fun r2 H5 r20 r21 x5 T5 => ?_⟩
          rw [hlen] at r21
          have hj : r2.toNat < ns.length := by omega
          have hr2 : r2 = ((r2.toNat : Nat) : Int) := by omega
          rw [hr2]
          have hss5 := x5 _ _ nD hss
          refine ⟨l, _, _, _, rfl, rfl, SqL.of (x5 _ _ nl hl'), atI_nat (iv_get (List.getElem?_eq_getElem hj)), _, hss5, by rw [iv_len]; exact small1000 (by omega), ?_⟩
          refine ⟨Exb.mut (x'.trans x5) hD, T5.upd nD.symm, ss ++ [ns[r2.toNat]], by rw [upd_same, iv_snoc], by rw [List.length_append, hsl]; rfl, fun n hn' => ?_⟩
          rcases List.mem_append.mp hn' with z | z
          · exact hsn n z
          · rw [List.mem_singleton.mp z]; exact List.getElem_mem hj
        rintro H4 ⟨x4, T4, ss, hss, hsl, hsn⟩
        have nD := T3.ne hD
        have x14 := x2.trans (x3.trans x4)
        have S4 := S.exb hT x14
        obtain ⟨pw, pw1, pw2, pw3⟩ := hno ss hsn
        refine ⟨_, rfl, t, h, rfl, S4, ok, fun H5 e5 => ⟨1, _, rfl, by omega, fun D2 hD2 => lc_range (lo := 1) (n := ((h.size : Int) - 1).toNat) (fun i' H' => Ex H5 H' ∧ ∃ fs : List Int, H' D2 = some (.lst (iv fs)) ∧ fs.length ≤ i' ∧ ((pw : Int) < 1 + i' → fs ≠ [])) ?_ ?_ ?_⟩⟩
        · exact ⟨Ex.new hD2, [], upd_same, Nat.le_refl _, fun z => absurd z (by omega)⟩
        · rintro i' H' hi' ⟨e', fs, hfs, hfl, hfn⟩
          refine ⟨rfl, ?_⟩
          refine ⟨_, rfl, _, rfl, _, rfl, t, h, _, D, ss, rfl, S4.ex (e5.trans e'), ok, by omega, by omega, (e5.trans e') _ _ hss, fun n hn' => hn n (hsn n hn'), by omega, fun H6 e6 => ⟨rfl, _, rfl, ifNI (fun z => ?_) fun z => ?_⟩⟩
          · have hfs6 := e6 _ _ hfs
            refine ⟨_, rfl, _, hfs6, by rw [iv_len]; exact small1000 (by omega), Ex.mut (e'.trans e6) hD2, fs ++ [1 + (i' : Int)], by rw [upd_same, iv_snoc], by rw [List.length_append]; show fs.length + 1 ≤ i' + 1; omega, fun _ => by simp⟩
          · refine ⟨e'.trans e6, fs, e6 _ _ hfs, by omega, fun z2 => hfn ?_⟩
            have : pw ≠ 1 + (i' : Int) := fun z3 => pw3 (by rw [z3]; exact z)
            omega
        rintro H6 ⟨e6, fs, hfs, hfl, hfn⟩
        have hfn := hfn (by omega)
        refine ⟨Nat.zero_le _, fun p hp => ⟨_, _, Dp.lst (SqL.of (Ex.new hp _ _ hfs)) (dp_ints _ fs), Dp.lst (SqL.of upd_same) .nil, (shp_ints _).1, rfl, _, rfl, ?_⟩⟩
        rw [eqv_nil_l]
        refine ifn (by cases fs with | nil => exact absurd rfl hfn | cons a b => rfl) ?_
        have e7 := e5.trans (e6.trans (Ex.new (o := .lst []) hp))
        exact ⟨_, _, rfl, x14.trans (Exb.of e7), (T4.ex e7).le (by omega)⟩
      · rintro σ H2 ⟨v4, v5, rfl, x2, T2⟩
        exact q H2 x2 (T2.le (by show c + 10 * 4 ≤ c + 50; omega))
end
end Sb

namespace Sb
open PySem PySem.Spec PyProof.Rows L2 Evl
section
variable {P : Program} {w : World} {K : PySem.W.Frag} {mg : PySem.Str → Option Value} {base : Heap} {k : Nat} {aP aI : Addr} {t1 t2 t3 : Tok}
def spLaw (K : PySem.W.Frag) : Sp := fun vs H Q _ => ∃ (a : Addr) (ns : List Int), vs = [.ref a] ∧ SqL K H a (iv ns) ∧ ns.length ≤ 63 ∧ ∀ H', Q (.bl true) H'
theorem SqL.exb {H H' : Hp} {a q : Addr} {xs : List V} (S : SqL K H a xs) (hq : H q = none) (x : Exb q H H') : SqL K H' a xs := by
  rcases S with (S | ⟨o, S⟩) | S
  · exact .inl (.inl (x _ _ (fun z => by rw [z, hq] at S; cases S) S))
  · exact .inl (.inr ⟨o, x _ _ (fun z => by rw [z, hq] at S; cases S) S⟩)
  · exact .inr S
theorem SqL.ex' {H H' : Hp} {a : Addr} {xs : List V} (S : SqL K H a xs) (x : Ex H H') : SqL K H' a xs := by
  rcases S with (S | ⟨o, S⟩) | S
  · exact .inl (.inl (x _ _ S))
  · exact .inl (.inr ⟨o, x _ _ S⟩)
  · exact .inr S
theorem ok_law {f : Addr} {fd : FuncData} (F : Fun K "law" "law" s_law f fd) (B : Bi mg) (C__law_tank : Cal P w K mg base k "_law_tank" ["_law_script", "_law_at"] [] (sp_tank K)) (C__law_shape : Cal P w K mg base k "_law_shape" ["_law_tank_here", "_law_most"] [] sp_shape)
    (C__law_right : Cal P w K mg base k "_law_right" ["_law_tank_here", "_law_shape_here", "_law_numbers_here"] [] sp_right) (C__law_allowed : Cal P w K mg base k "_law_allowed" ["_law_tank_here", "_law_shape_here", "_law_most"] [] sp_allowed)
    (C__law_step_right : Cal P w K mg base k "_law_step_right" ["_law_tank_here", "_law_shape_here", "_law_text"] [] sp_step_right) : FnOk P w K mg base CX0 (k + 1) f fd ["_law_script"] (spLaw K) := by
  refine F.ok sc_law (fun vs H Q E h => ?_) (fun cdv A outer s H vs Q E hr h => ?_)
  · obtain ⟨a, ns, rfl, _⟩ := h; rfl
  · obtain ⟨a, ns, rfl, hS, h63, q⟩ := h
    -- 0:_law_script 1:_law_at 2:_law_tank_here 3:_law_turn 4:_law_shape_here
    refine ⟨_, pss_cons (ps_for PassesOwn.never rfl (pi_range1 rfl B.range (pa_cons (pe_callB (call_max2 rfl) rfl B.max (by decide +kernel) (pa_cons pe_int (pa_cons (pe_callB (call_min2 rfl) rfl B.min (by decide +kernel) (pa_cons pe_int (pa_cons (pe_callB call_len_seq rfl B.len PySem.boot_len (pa_cons (pv 0) pa_nil)) pa_nil))) pa_nil))) pa_nil)) (pg_name (i := 1) sc_law.nd rfl (.inl rfl)) (pss_cons (ps_set (i := 2) sc_law.nd rfl (.inl rfl) (pcl C__law_tank hr (pa_cons (pv 0) (pa_cons (pv 1) pa_nil))))
      (pss_one (ps_for PassesOwn.never rfl (pi_range1 rfl B.range (pa_cons pe_int pa_nil)) (pg_name (i := 3) sc_law.nd rfl (.inl rfl)) (pss_cons (ps_set (i := 4) sc_law.nd rfl (.inl rfl) (pcl C__law_shape hr (pa_cons (pv 2) (pa_cons (pe_ix ix_list (pe_lst (pa_cons pe_int (pa_cons pe_int (pa_cons pe_int (pa_cons pe_int (pa_cons pe_int pa_nil)))))) (pv 3) (fun _ _ => rfl)) pa_nil))))
      (pss_one (ps_if (pt_not (pt_val (pcl C__law_right hr (pa_cons (pv 2) (pa_cons (pv 4) (pa_cons (pcl C__law_allowed hr (pa_cons (pv 2) (pa_cons (pv 4) (pa_cons (pe_ix ix_list (pe_lst (pa_cons pe_int (pa_cons pe_int (pa_cons pe_int (pa_cons pe_int (pa_cons pe_int pa_nil)))))) (pv 3) (fun _ _ => rfl)) pa_nil)))) pa_nil)))))) (pss_one (ps_ret pe_bl)) pss_nil)))))))
      (pss_one (ps_ret (pcl C__law_step_right hr (pa_cons (pcl C__law_tank hr (pa_cons (pv 0) (pa_cons pe_int pa_nil))) (pa_cons (pe_tup (pa_cons pe_int (pa_cons pe_str (pa_cons pe_int pa_nil)))) (pa_cons (pe_lst (pa_cons pe_int pa_nil)) pa_nil)))))), ?_⟩
    have hl : ((iv ns).length : Int) = (ns.length : Int) := by rw [iv_len]
    refine ⟨_, rfl, a, _, rfl, .inl hS, _, _, rfl, _, _, rfl, _, rfl, ?_⟩
    rw [hl]
    generalize hm : (if (1 : Int) < (if (ns.length : Int) < 3 then (ns.length : Int) else 3) then (if (ns.length : Int) < 3 then (ns.length : Int) else 3) else 1) = m at *
    have hm1 : 1 ≤ m ∧ m ≤ 3 := by
      rw [← hm]
      split
      · split <;> constructor <;> omega
      · constructor <;> omega
    obtain ⟨hm1, hm3⟩ := hm1
    refine ⟨by omega, by omega, for_range (lo := 0) (n := m.toNat) (fun i σ H' => ∃ (v1 v2 v3 v4 : Option V), σ = [some (.ref a), v1, v2, v3, v4] ∧ SqL K H' a (iv ns)) ?_ ?_ ?_⟩
    · exact ⟨none, none, none, none, rfl, hS⟩
    · rintro i σ H1 hi ⟨v1, v2, v3, v4, rfl, S1⟩
      refine ⟨_, rfl, _, rfl, a, ns, _, rfl, S1, h63, by omega, by omega, fun tk H2 htk e2 T2 => ?_⟩
      have S2 : SqL K H2 a (iv ns) := SqL.ex' S1 e2
      refine ⟨5, rfl, by decide, by decide, for_range (lo := 0) (n := (5 : Int).toNat) (fun j σ H' => ∃ (v3 v4 : Option V), σ = [some (.ref a), some (.int (0 + (i : Int))), some (.ref tk), v3, v4] ∧ Exb tk H1 H' ∧ TankAt H' tk (66 * j)) ?_ ?_ ?_⟩
      · exact ⟨v3, v4, rfl, Exb.of e2, T2⟩
      · rintro j σ H3 hj ⟨v3, v4, rfl, x3, T3⟩
        have hj5 : j < 5 := hj
        obtain ⟨m1, hat, hm11, hm17⟩ : ∃ m1 : Int, atI [V.int 3, V.int 3, V.int 5, V.int 7, V.int 7] (0 + (j : Int)) = some (.int m1) ∧ 1 ≤ m1 ∧ m1 ≤ 7 := by
          have : j = 0 ∨ j = 1 ∨ j = 2 ∨ j = 3 ∨ j = 4 := by omega
          rcases this with rfl | rfl | rfl | rfl | rfl
          · exact ⟨3, rfl, by decide, by decide⟩
          · exact ⟨3, rfl, by decide, by decide⟩
          · exact ⟨5, rfl, by decide, by decide⟩
          · exact ⟨7, rfl, by decide, by decide⟩
          · exact ⟨7, rfl, by decide, by decide⟩
        obtain ⟨m2, hat2, hm21, hm26⟩ : ∃ m2 : Int, atI [V.int 4, V.int 2, V.int 6, V.int 3, V.int 6] (0 + (j : Int)) = some (.int m2) ∧ 1 ≤ m2 ∧ m2 ≤ 6 := by
          have : j = 0 ∨ j = 1 ∨ j = 2 ∨ j = 3 ∨ j = 4 := by omega
          rcases this with rfl | rfl | rfl | rfl | rfl
          · exact ⟨4, rfl, by decide, by decide⟩
          · exact ⟨2, rfl, by decide, by decide⟩
          · exact ⟨6, rfl, by decide, by decide⟩
          · exact ⟨3, rfl, by decide, by decide⟩
          · exact ⟨6, rfl, by decide, by decide⟩
        refine ⟨_, rfl, by show 5 ≤ sizeLine; decide, fun pl hpl => ⟨_, rfl, pl, _, _, _, rfl, rfl, SqL.of upd_same, hat, ?_⟩⟩
        have y := Ex.new (o := .lst [V.int 3, V.int 3, V.int 5, V.int 7, V.int 7]) hpl
        refine ⟨tk, _, m1, rfl, T3.ex y, by omega, hm11, by omega, fun h t H4 ok hb x4 S4 T4 => ?_⟩
        have x34 := x3.trans ((Exb.of y).trans x4)
        have pn := h.pn_le
        have s2 := ok.s2
        have h11 : h.size ≤ 11 := by
          unfold Shp.size; omega
        refine ⟨_, rfl, _, rfl, _, rfl, _, rfl, by show 5 ≤ sizeLine; decide, fun pl2 hpl2 => ⟨_, rfl, pl2, _, _, _, rfl, rfl, SqL.of upd_same, hat2, ?_⟩⟩
        have y2 := Ex.new (o := .lst [V.int 4, V.int 2, V.int 6, V.int 3, V.int 6]) hpl2
        refine ⟨tk, _, t, h, m2, rfl, T4.ex y2, by omega, S4.ex y2, ok, hm21, hm26, fun ql as H5 hq x5 hq5 hn hnd h1 h6 T5 => ?_⟩
        have nq : ql ≠ tk := (T4.ex y2).ne hq
        refine ⟨tk, _, t, h, ql, as, rfl, T5, by omega, (S4.ex y2).exb (T4.ex y2) x5, ok, h11, hq5, nq, hn, hnd, h1, h6, fun H6 x6 T6 => ?_⟩
        exact ⟨_, rfl, ifn rfl ⟨_, _, rfl, x34.trans ((Exb.of y2).trans (x5.trans x6)), T6.le (by omega)⟩⟩
      · rintro σ H3 ⟨v3, v4, rfl, x3, T3⟩
        exact ⟨_, _, _, _, rfl, SqL.exb S1 htk x3⟩
    · rintro σ H1 ⟨v1, v2, v3, v4, rfl, S1⟩
      refine ⟨_, rfl, a, ns, 0, rfl, S1, h63, by decide, by decide, fun tk H2 htk e2 T2 => ?_⟩
      refine ⟨by show 3 ≤ sizeLine; decide, fun pt hpt => ⟨by show 1 ≤ sizeLine; decide, fun pl hpl => ?_⟩⟩
      have y1 := Ex.new (o := .tup [.int 8, .str "none", .int 1]) hpt
      have y2 := Ex.new (o := .lst [.int 0]) hpl
      have npl : pl ≠ tk := (T2.ex y1).ne hpl
      refine ⟨tk, 0, pt, ⟨8, .non, 1⟩, pl, [0], rfl, (T2.ex y1).ex y2, by decide, y2 _ _ upd_same, ⟨by decide, by decide, by decide, by decide⟩, by decide, upd_same, npl, fun n hn => ?_, by decide, last_text, fun H3 x3 T3 => q H3⟩
      rw [List.mem_singleton.mp hn]
      exact ⟨Int.le_refl _, by decide⟩
end
end Sb

namespace Sb
open PySem PySem.Spec PyProof.Rows L2 Evl
theorem all_mk {l : PySem.W.OpenLaw} {w : World} {K : PySem.W.Frag} {h : Heap} {mg : PySem.Str → Option Value} {fa aP aI aR : Addr} {t1 t2 t3 : Tok} (X : K.In h) (G : h.Ns mainGlobals mg) (hfa : mg "law" = some (.ref fa))
    {oP oI oR : Obj} {iP iI : Array Value} {iR : List Value} {nP nI nR : Nat}
    (z_isinstance : PySem.W.nsIn K mainGlobals "isinstance" = some none)
    (z_int : PySem.W.nsIn K mainGlobals "int" = some none)
    (z_bool : PySem.W.nsIn K mainGlobals "bool" = some none)
    (z_tuple : PySem.W.nsIn K mainGlobals "tuple" = some none)
    (z_list : PySem.W.nsIn K mainGlobals "list" = some none)
    (z_str : PySem.W.nsIn K mainGlobals "str" = some none)
    (z_len : PySem.W.nsIn K mainGlobals "len" = some none)
    (z_sum : PySem.W.nsIn K mainGlobals "sum" = some none)
    (z_range : PySem.W.nsIn K mainGlobals "range" = some none)
    (z_sorted : PySem.W.nsIn K mainGlobals "sorted" = some none)
    (z_enumerate : PySem.W.nsIn K mainGlobals "enumerate" = some none)
    (z_max : PySem.W.nsIn K mainGlobals "max" = some none)
    (z_min : PySem.W.nsIn K mainGlobals "min" = some none)
    (z_abs : PySem.W.nsIn K mainGlobals "abs" = some none)
    (m_PARITIES : PySem.W.nsIn K mainGlobals "PARITIES" = some (some (.ref aP)))
    (m_IDLE : PySem.W.nsIn K mainGlobals "IDLE" = some (some (.ref aI)))
    (m_MOST_LEVELS : PySem.W.nsIn K mainGlobals "MOST_LEVELS" = some (some (.int 800 t1)))
    (m_WAITING : PySem.W.nsIn K mainGlobals "WAITING" = some (some (.int (-1) t2)))
    (m_MOST_ALLOWED : PySem.W.nsIn K mainGlobals "MOST_ALLOWED" = some (some (.int 20 t3)))
    {f_is_integer : Addr} {od_is_integer an_is_integer : Option Addr} {sl_is_integer : Array (Option Value)} {oc_is_integer kV_is_integer dc_is_integer pm_is_integer cd_is_integer ct_is_integer : Value}
    (a_is_integer : PySem.W.nsIn K mainGlobals "is_integer" = some (some (.ref f_is_integer)))
    (l_is_integer : K.lookup f_is_integer = some ⟨oc_is_integer, od_is_integer, .func (PySem.W.fnOf "is_integer" "is_integer" (defArgs s_is_integer) (defBody s_is_integer) (defScope s_is_integer) .none kV_is_integer dc_is_integer pm_is_integer an_is_integer cd_is_integer ct_is_integer), sl_is_integer⟩)
    (c_is_integer : PySem.W.codeIn K cd_is_integer "is_integer" = true) (k_is_integer : PySem.W.keepIn K (.ref f_is_integer) = true)
    {f_frame_size : Addr} {od_frame_size an_frame_size : Option Addr} {sl_frame_size : Array (Option Value)} {oc_frame_size kV_frame_size dc_frame_size pm_frame_size cd_frame_size ct_frame_size : Value}
    (a_frame_size : PySem.W.nsIn K mainGlobals "frame_size" = some (some (.ref f_frame_size)))
    (l_frame_size : K.lookup f_frame_size = some ⟨oc_frame_size, od_frame_size, .func (PySem.W.fnOf "frame_size" "frame_size" (defArgs s_frame_size) (defBody s_frame_size) (defScope s_frame_size) .none kV_frame_size dc_frame_size pm_frame_size an_frame_size cd_frame_size ct_frame_size), sl_frame_size⟩)
    (c_frame_size : PySem.W.codeIn K cd_frame_size "frame_size" = true) (k_frame_size : PySem.W.keepIn K (.ref f_frame_size) = true)
    {f_first_stop : Addr} {od_first_stop an_first_stop : Option Addr} {sl_first_stop : Array (Option Value)} {oc_first_stop kV_first_stop dc_first_stop pm_first_stop cd_first_stop ct_first_stop : Value}
    (a_first_stop : PySem.W.nsIn K mainGlobals "first_stop" = some (some (.ref f_first_stop)))
    (l_first_stop : K.lookup f_first_stop = some ⟨oc_first_stop, od_first_stop, .func (PySem.W.fnOf "first_stop" "first_stop" (defArgs s_first_stop) (defBody s_first_stop) (defScope s_first_stop) .none kV_first_stop dc_first_stop pm_first_stop an_first_stop cd_first_stop ct_first_stop), sl_first_stop⟩)
    (c_first_stop : PySem.W.codeIn K cd_first_stop "first_stop" = true) (k_first_stop : PySem.W.keepIn K (.ref f_first_stop) = true)
    {f_parity_level : Addr} {od_parity_level an_parity_level : Option Addr} {sl_parity_level : Array (Option Value)} {oc_parity_level kV_parity_level dc_parity_level pm_parity_level cd_parity_level ct_parity_level : Value}
    (a_parity_level : PySem.W.nsIn K mainGlobals "parity_level" = some (some (.ref f_parity_level)))
    (l_parity_level : K.lookup f_parity_level = some ⟨oc_parity_level, od_parity_level, .func (PySem.W.fnOf "parity_level" "parity_level" (defArgs s_parity_level) (defBody s_parity_level) (defScope s_parity_level) .none kV_parity_level dc_parity_level pm_parity_level an_parity_level cd_parity_level ct_parity_level), sl_parity_level⟩)
    (c_parity_level : PySem.W.codeIn K cd_parity_level "parity_level" = true) (k_parity_level : PySem.W.keepIn K (.ref f_parity_level) = true)
    {f_fits_shape : Addr} {od_fits_shape an_fits_shape : Option Addr} {sl_fits_shape : Array (Option Value)} {oc_fits_shape kV_fits_shape dc_fits_shape pm_fits_shape cd_fits_shape ct_fits_shape : Value}
    (a_fits_shape : PySem.W.nsIn K mainGlobals "fits_shape" = some (some (.ref f_fits_shape)))
    (l_fits_shape : K.lookup f_fits_shape = some ⟨oc_fits_shape, od_fits_shape, .func (PySem.W.fnOf "fits_shape" "fits_shape" (defArgs s_fits_shape) (defBody s_fits_shape) (defScope s_fits_shape) .none kV_fits_shape dc_fits_shape pm_fits_shape an_fits_shape cd_fits_shape ct_fits_shape), sl_fits_shape⟩)
    (c_fits_shape : PySem.W.codeIn K cd_fits_shape "fits_shape" = true) (k_fits_shape : PySem.W.keepIn K (.ref f_fits_shape) = true)
    {f_shape_fault : Addr} {od_shape_fault an_shape_fault : Option Addr} {sl_shape_fault : Array (Option Value)} {oc_shape_fault kV_shape_fault dc_shape_fault pm_shape_fault cd_shape_fault ct_shape_fault : Value}
    (a_shape_fault : PySem.W.nsIn K mainGlobals "shape_fault" = some (some (.ref f_shape_fault)))
    (l_shape_fault : K.lookup f_shape_fault = some ⟨oc_shape_fault, od_shape_fault, .func (PySem.W.fnOf "shape_fault" "shape_fault" (defArgs s_shape_fault) (defBody s_shape_fault) (defScope s_shape_fault) .none kV_shape_fault dc_shape_fault pm_shape_fault an_shape_fault cd_shape_fault ct_shape_fault), sl_shape_fault⟩)
    (c_shape_fault : PySem.W.codeIn K cd_shape_fault "shape_fault" = true) (k_shape_fault : PySem.W.keepIn K (.ref f_shape_fault) = true)
    {f_require_shape : Addr} {od_require_shape an_require_shape : Option Addr} {sl_require_shape : Array (Option Value)} {oc_require_shape kV_require_shape dc_require_shape pm_require_shape cd_require_shape ct_require_shape : Value}
    (a_require_shape : PySem.W.nsIn K mainGlobals "require_shape" = some (some (.ref f_require_shape)))
    (l_require_shape : K.lookup f_require_shape = some ⟨oc_require_shape, od_require_shape, .func (PySem.W.fnOf "require_shape" "require_shape" (defArgs s_require_shape) (defBody s_require_shape) (defScope s_require_shape) .none kV_require_shape dc_require_shape pm_require_shape an_require_shape cd_require_shape ct_require_shape), sl_require_shape⟩)
    (c_require_shape : PySem.W.codeIn K cd_require_shape "require_shape" = true) (k_require_shape : PySem.W.keepIn K (.ref f_require_shape) = true)
    {f_size_of : Addr} {od_size_of an_size_of : Option Addr} {sl_size_of : Array (Option Value)} {oc_size_of kV_size_of dc_size_of pm_size_of cd_size_of ct_size_of : Value}
    (a_size_of : PySem.W.nsIn K mainGlobals "size_of" = some (some (.ref f_size_of)))
    (l_size_of : K.lookup f_size_of = some ⟨oc_size_of, od_size_of, .func (PySem.W.fnOf "size_of" "size_of" (defArgs s_size_of) (defBody s_size_of) (defScope s_size_of) .none kV_size_of dc_size_of pm_size_of an_size_of cd_size_of ct_size_of), sl_size_of⟩)
    (c_size_of : PySem.W.codeIn K cd_size_of "size_of" = true) (k_size_of : PySem.W.keepIn K (.ref f_size_of) = true)
    {f_require_text : Addr} {od_require_text an_require_text : Option Addr} {sl_require_text : Array (Option Value)} {oc_require_text kV_require_text dc_require_text pm_require_text cd_require_text ct_require_text : Value}
    (a_require_text : PySem.W.nsIn K mainGlobals "require_text" = some (some (.ref f_require_text)))
    (l_require_text : K.lookup f_require_text = some ⟨oc_require_text, od_require_text, .func (PySem.W.fnOf "require_text" "require_text" (defArgs s_require_text) (defBody s_require_text) (defScope s_require_text) (.ref aR) kV_require_text dc_require_text pm_require_text an_require_text cd_require_text ct_require_text), sl_require_text⟩)
    (c_require_text : PySem.W.codeIn K cd_require_text "require_text" = true) (k_require_text : PySem.W.keepIn K (.ref f_require_text) = true)
    {f_require_different : Addr} {od_require_different an_require_different : Option Addr} {sl_require_different : Array (Option Value)} {oc_require_different kV_require_different dc_require_different pm_require_different cd_require_different ct_require_different : Value}
    (a_require_different : PySem.W.nsIn K mainGlobals "require_different" = some (some (.ref f_require_different)))
    (l_require_different : K.lookup f_require_different = some ⟨oc_require_different, od_require_different, .func (PySem.W.fnOf "require_different" "require_different" (defArgs s_require_different) (defBody s_require_different) (defScope s_require_different) .none kV_require_different dc_require_different pm_require_different an_require_different cd_require_different ct_require_different), sl_require_different⟩)
    (c_require_different : PySem.W.codeIn K cd_require_different "require_different" = true) (k_require_different : PySem.W.keepIn K (.ref f_require_different) = true)
    {f_require_levels : Addr} {od_require_levels an_require_levels : Option Addr} {sl_require_levels : Array (Option Value)} {oc_require_levels kV_require_levels dc_require_levels pm_require_levels cd_require_levels ct_require_levels : Value}
    (a_require_levels : PySem.W.nsIn K mainGlobals "require_levels" = some (some (.ref f_require_levels)))
    (l_require_levels : K.lookup f_require_levels = some ⟨oc_require_levels, od_require_levels, .func (PySem.W.fnOf "require_levels" "require_levels" (defArgs s_require_levels) (defBody s_require_levels) (defScope s_require_levels) .none kV_require_levels dc_require_levels pm_require_levels an_require_levels cd_require_levels ct_require_levels), sl_require_levels⟩)
    (c_require_levels : PySem.W.codeIn K cd_require_levels "require_levels" = true) (k_require_levels : PySem.W.keepIn K (.ref f_require_levels) = true)
    {f_frame_levels : Addr} {od_frame_levels an_frame_levels : Option Addr} {sl_frame_levels : Array (Option Value)} {oc_frame_levels kV_frame_levels dc_frame_levels pm_frame_levels cd_frame_levels ct_frame_levels : Value}
    (a_frame_levels : PySem.W.nsIn K mainGlobals "frame_levels" = some (some (.ref f_frame_levels)))
    (l_frame_levels : K.lookup f_frame_levels = some ⟨oc_frame_levels, od_frame_levels, .func (PySem.W.fnOf "frame_levels" "frame_levels" (defArgs s_frame_levels) (defBody s_frame_levels) (defScope s_frame_levels) .none kV_frame_levels dc_frame_levels pm_frame_levels an_frame_levels cd_frame_levels ct_frame_levels), sl_frame_levels⟩)
    (c_frame_levels : PySem.W.codeIn K cd_frame_levels "frame_levels" = true) (k_frame_levels : PySem.W.keepIn K (.ref f_frame_levels) = true)
    {f_levels_of : Addr} {od_levels_of an_levels_of : Option Addr} {sl_levels_of : Array (Option Value)} {oc_levels_of kV_levels_of dc_levels_of pm_levels_of cd_levels_of ct_levels_of : Value}
    (a_levels_of : PySem.W.nsIn K mainGlobals "levels_of" = some (some (.ref f_levels_of)))
    (l_levels_of : K.lookup f_levels_of = some ⟨oc_levels_of, od_levels_of, .func (PySem.W.fnOf "levels_of" "levels_of" (defArgs s_levels_of) (defBody s_levels_of) (defScope s_levels_of) .none kV_levels_of dc_levels_of pm_levels_of an_levels_of cd_levels_of ct_levels_of), sl_levels_of⟩)
    (c_levels_of : PySem.W.codeIn K cd_levels_of "levels_of" = true) (k_levels_of : PySem.W.keepIn K (.ref f_levels_of) = true)
    {f_after_level : Addr} {od_after_level an_after_level : Option Addr} {sl_after_level : Array (Option Value)} {oc_after_level kV_after_level dc_after_level pm_after_level cd_after_level ct_after_level : Value}
    (a_after_level : PySem.W.nsIn K mainGlobals "after_level" = some (some (.ref f_after_level)))
    (l_after_level : K.lookup f_after_level = some ⟨oc_after_level, od_after_level, .func (PySem.W.fnOf "after_level" "after_level" (defArgs s_after_level) (defBody s_after_level) (defScope s_after_level) .none kV_after_level dc_after_level pm_after_level an_after_level cd_after_level ct_after_level), sl_after_level⟩)
    (c_after_level : PySem.W.codeIn K cd_after_level "after_level" = true) (k_after_level : PySem.W.keepIn K (.ref f_after_level) = true)
    {f_readings_of : Addr} {od_readings_of an_readings_of : Option Addr} {sl_readings_of : Array (Option Value)} {oc_readings_of kV_readings_of dc_readings_of pm_readings_of cd_readings_of ct_readings_of : Value}
    (a_readings_of : PySem.W.nsIn K mainGlobals "readings_of" = some (some (.ref f_readings_of)))
    (l_readings_of : K.lookup f_readings_of = some ⟨oc_readings_of, od_readings_of, .func (PySem.W.fnOf "readings_of" "readings_of" (defArgs s_readings_of) (defBody s_readings_of) (defScope s_readings_of) .none kV_readings_of dc_readings_of pm_readings_of an_readings_of cd_readings_of ct_readings_of), sl_readings_of⟩)
    (c_readings_of : PySem.W.codeIn K cd_readings_of "readings_of" = true) (k_readings_of : PySem.W.keepIn K (.ref f_readings_of) = true)
    {f_parsed : Addr} {od_parsed an_parsed : Option Addr} {sl_parsed : Array (Option Value)} {oc_parsed kV_parsed dc_parsed pm_parsed cd_parsed ct_parsed : Value}
    (a_parsed : PySem.W.nsIn K mainGlobals "parsed" = some (some (.ref f_parsed)))
    (l_parsed : K.lookup f_parsed = some ⟨oc_parsed, od_parsed, .func (PySem.W.fnOf "parsed" "parsed" (defArgs s_parsed) (defBody s_parsed) (defScope s_parsed) .none kV_parsed dc_parsed pm_parsed an_parsed cd_parsed ct_parsed), sl_parsed⟩)
    (c_parsed : PySem.W.codeIn K cd_parsed "parsed" = true) (k_parsed : PySem.W.keepIn K (.ref f_parsed) = true)
    {f_state_after : Addr} {od_state_after an_state_after : Option Addr} {sl_state_after : Array (Option Value)} {oc_state_after kV_state_after dc_state_after pm_state_after cd_state_after ct_state_after : Value}
    (a_state_after : PySem.W.nsIn K mainGlobals "state_after" = some (some (.ref f_state_after)))
    (l_state_after : K.lookup f_state_after = some ⟨oc_state_after, od_state_after, .func (PySem.W.fnOf "state_after" "state_after" (defArgs s_state_after) (defBody s_state_after) (defScope s_state_after) .none kV_state_after dc_state_after pm_state_after an_state_after cd_state_after ct_state_after), sl_state_after⟩)
    (c_state_after : PySem.W.codeIn K cd_state_after "state_after" = true) (k_state_after : PySem.W.keepIn K (.ref f_state_after) = true)
    {f_next_place : Addr} {od_next_place an_next_place : Option Addr} {sl_next_place : Array (Option Value)} {oc_next_place kV_next_place dc_next_place pm_next_place cd_next_place ct_next_place : Value}
    (a_next_place : PySem.W.nsIn K mainGlobals "next_place" = some (some (.ref f_next_place)))
    (l_next_place : K.lookup f_next_place = some ⟨oc_next_place, od_next_place, .func (PySem.W.fnOf "next_place" "next_place" (defArgs s_next_place) (defBody s_next_place) (defScope s_next_place) .none kV_next_place dc_next_place pm_next_place an_next_place cd_next_place ct_next_place), sl_next_place⟩)
    (c_next_place : PySem.W.codeIn K cd_next_place "next_place" = true) (k_next_place : PySem.W.keepIn K (.ref f_next_place) = true)
    {f_require_place : Addr} {od_require_place an_require_place : Option Addr} {sl_require_place : Array (Option Value)} {oc_require_place kV_require_place dc_require_place pm_require_place cd_require_place ct_require_place : Value}
    (a_require_place : PySem.W.nsIn K mainGlobals "require_place" = some (some (.ref f_require_place)))
    (l_require_place : K.lookup f_require_place = some ⟨oc_require_place, od_require_place, .func (PySem.W.fnOf "require_place" "require_place" (defArgs s_require_place) (defBody s_require_place) (defScope s_require_place) .none kV_require_place dc_require_place pm_require_place an_require_place cd_require_place ct_require_place), sl_require_place⟩)
    (c_require_place : PySem.W.codeIn K cd_require_place "require_place" = true) (k_require_place : PySem.W.keepIn K (.ref f_require_place) = true)
    {f_places_along : Addr} {od_places_along an_places_along : Option Addr} {sl_places_along : Array (Option Value)} {oc_places_along kV_places_along dc_places_along pm_places_along cd_places_along ct_places_along : Value}
    (a_places_along : PySem.W.nsIn K mainGlobals "places_along" = some (some (.ref f_places_along)))
    (l_places_along : K.lookup f_places_along = some ⟨oc_places_along, od_places_along, .func (PySem.W.fnOf "places_along" "places_along" (defArgs s_places_along) (defBody s_places_along) (defScope s_places_along) .none kV_places_along dc_places_along pm_places_along an_places_along cd_places_along ct_places_along), sl_places_along⟩)
    (c_places_along : PySem.W.codeIn K cd_places_along "places_along" = true) (k_places_along : PySem.W.keepIn K (.ref f_places_along) = true)
    {f_place_behind : Addr} {od_place_behind an_place_behind : Option Addr} {sl_place_behind : Array (Option Value)} {oc_place_behind kV_place_behind dc_place_behind pm_place_behind cd_place_behind ct_place_behind : Value}
    (a_place_behind : PySem.W.nsIn K mainGlobals "place_behind" = some (some (.ref f_place_behind)))
    (l_place_behind : K.lookup f_place_behind = some ⟨oc_place_behind, od_place_behind, .func (PySem.W.fnOf "place_behind" "place_behind" (defArgs s_place_behind) (defBody s_place_behind) (defScope s_place_behind) .none kV_place_behind dc_place_behind pm_place_behind an_place_behind cd_place_behind ct_place_behind), sl_place_behind⟩)
    (c_place_behind : PySem.W.codeIn K cd_place_behind "place_behind" = true) (k_place_behind : PySem.W.keepIn K (.ref f_place_behind) = true)
    {f_step_text : Addr} {od_step_text an_step_text : Option Addr} {sl_step_text : Array (Option Value)} {oc_step_text kV_step_text dc_step_text pm_step_text cd_step_text ct_step_text : Value}
    (a_step_text : PySem.W.nsIn K mainGlobals "step_text" = some (some (.ref f_step_text)))
    (l_step_text : K.lookup f_step_text = some ⟨oc_step_text, od_step_text, .func (PySem.W.fnOf "step_text" "step_text" (defArgs s_step_text) (defBody s_step_text) (defScope s_step_text) .none kV_step_text dc_step_text pm_step_text an_step_text cd_step_text ct_step_text), sl_step_text⟩)
    (c_step_text : PySem.W.codeIn K cd_step_text "step_text" = true) (k_step_text : PySem.W.keepIn K (.ref f_step_text) = true)
    {f_law_tank : Addr} {od_law_tank an_law_tank : Option Addr} {sl_law_tank : Array (Option Value)} {oc_law_tank kV_law_tank dc_law_tank pm_law_tank cd_law_tank ct_law_tank : Value}
    (a_law_tank : PySem.W.nsIn K mainGlobals "_law_tank" = some (some (.ref f_law_tank)))
    (l_law_tank : K.lookup f_law_tank = some ⟨oc_law_tank, od_law_tank, .func (PySem.W.fnOf "_law_tank" "_law_tank" (defArgs s__law_tank) (defBody s__law_tank) (defScope s__law_tank) .none kV_law_tank dc_law_tank pm_law_tank an_law_tank cd_law_tank ct_law_tank), sl_law_tank⟩)
    (c_law_tank : PySem.W.codeIn K cd_law_tank "_law_tank" = true) (k_law_tank : PySem.W.keepIn K (.ref f_law_tank) = true)
    {f_law_tap : Addr} {od_law_tap an_law_tap : Option Addr} {sl_law_tap : Array (Option Value)} {oc_law_tap kV_law_tap dc_law_tap pm_law_tap cd_law_tap ct_law_tap : Value}
    (a_law_tap : PySem.W.nsIn K mainGlobals "_law_tap" = some (some (.ref f_law_tap)))
    (l_law_tap : K.lookup f_law_tap = some ⟨oc_law_tap, od_law_tap, .func (PySem.W.fnOf "_law_tap" "_law_tap" (defArgs s__law_tap) (defBody s__law_tap) (defScope s__law_tap) .none kV_law_tap dc_law_tap pm_law_tap an_law_tap cd_law_tap ct_law_tap), sl_law_tap⟩)
    (c_law_tap : PySem.W.codeIn K cd_law_tap "_law_tap" = true) (k_law_tap : PySem.W.keepIn K (.ref f_law_tap) = true)
    {f_law_shape : Addr} {od_law_shape an_law_shape : Option Addr} {sl_law_shape : Array (Option Value)} {oc_law_shape kV_law_shape dc_law_shape pm_law_shape cd_law_shape ct_law_shape : Value}
    (a_law_shape : PySem.W.nsIn K mainGlobals "_law_shape" = some (some (.ref f_law_shape)))
    (l_law_shape : K.lookup f_law_shape = some ⟨oc_law_shape, od_law_shape, .func (PySem.W.fnOf "_law_shape" "_law_shape" (defArgs s__law_shape) (defBody s__law_shape) (defScope s__law_shape) .none kV_law_shape dc_law_shape pm_law_shape an_law_shape cd_law_shape ct_law_shape), sl_law_shape⟩)
    (c_law_shape : PySem.W.codeIn K cd_law_shape "_law_shape" = true) (k_law_shape : PySem.W.keepIn K (.ref f_law_shape) = true)
    {f_law_numbers : Addr} {od_law_numbers an_law_numbers : Option Addr} {sl_law_numbers : Array (Option Value)} {oc_law_numbers kV_law_numbers dc_law_numbers pm_law_numbers cd_law_numbers ct_law_numbers : Value}
    (a_law_numbers : PySem.W.nsIn K mainGlobals "_law_numbers" = some (some (.ref f_law_numbers)))
    (l_law_numbers : K.lookup f_law_numbers = some ⟨oc_law_numbers, od_law_numbers, .func (PySem.W.fnOf "_law_numbers" "_law_numbers" (defArgs s__law_numbers) (defBody s__law_numbers) (defScope s__law_numbers) .none kV_law_numbers dc_law_numbers pm_law_numbers an_law_numbers cd_law_numbers ct_law_numbers), sl_law_numbers⟩)
    (c_law_numbers : PySem.W.codeIn K cd_law_numbers "_law_numbers" = true) (k_law_numbers : PySem.W.keepIn K (.ref f_law_numbers) = true)
    {f_law_frame : Addr} {od_law_frame an_law_frame : Option Addr} {sl_law_frame : Array (Option Value)} {oc_law_frame kV_law_frame dc_law_frame pm_law_frame cd_law_frame ct_law_frame : Value}
    (a_law_frame : PySem.W.nsIn K mainGlobals "_law_frame" = some (some (.ref f_law_frame)))
    (l_law_frame : K.lookup f_law_frame = some ⟨oc_law_frame, od_law_frame, .func (PySem.W.fnOf "_law_frame" "_law_frame" (defArgs s__law_frame) (defBody s__law_frame) (defScope s__law_frame) .none kV_law_frame dc_law_frame pm_law_frame an_law_frame cd_law_frame ct_law_frame), sl_law_frame⟩)
    (c_law_frame : PySem.W.codeIn K cd_law_frame "_law_frame" = true) (k_law_frame : PySem.W.keepIn K (.ref f_law_frame) = true)
    {f_law_place : Addr} {od_law_place an_law_place : Option Addr} {sl_law_place : Array (Option Value)} {oc_law_place kV_law_place dc_law_place pm_law_place cd_law_place ct_law_place : Value}
    (a_law_place : PySem.W.nsIn K mainGlobals "_law_place" = some (some (.ref f_law_place)))
    (l_law_place : K.lookup f_law_place = some ⟨oc_law_place, od_law_place, .func (PySem.W.fnOf "_law_place" "_law_place" (defArgs s__law_place) (defBody s__law_place) (defScope s__law_place) .none kV_law_place dc_law_place pm_law_place an_law_place cd_law_place ct_law_place), sl_law_place⟩)
    (c_law_place : PySem.W.codeIn K cd_law_place "_law_place" = true) (k_law_place : PySem.W.keepIn K (.ref f_law_place) = true)
    {f_law_maps : Addr} {od_law_maps an_law_maps : Option Addr} {sl_law_maps : Array (Option Value)} {oc_law_maps kV_law_maps dc_law_maps pm_law_maps cd_law_maps ct_law_maps : Value}
    (a_law_maps : PySem.W.nsIn K mainGlobals "_law_maps" = some (some (.ref f_law_maps)))
    (l_law_maps : K.lookup f_law_maps = some ⟨oc_law_maps, od_law_maps, .func (PySem.W.fnOf "_law_maps" "_law_maps" (defArgs s__law_maps) (defBody s__law_maps) (defScope s__law_maps) .none kV_law_maps dc_law_maps pm_law_maps an_law_maps cd_law_maps ct_law_maps), sl_law_maps⟩)
    (c_law_maps : PySem.W.codeIn K cd_law_maps "_law_maps" = true) (k_law_maps : PySem.W.keepIn K (.ref f_law_maps) = true)
    {f_law_allowed : Addr} {od_law_allowed an_law_allowed : Option Addr} {sl_law_allowed : Array (Option Value)} {oc_law_allowed kV_law_allowed dc_law_allowed pm_law_allowed cd_law_allowed ct_law_allowed : Value}
    (a_law_allowed : PySem.W.nsIn K mainGlobals "_law_allowed" = some (some (.ref f_law_allowed)))
    (l_law_allowed : K.lookup f_law_allowed = some ⟨oc_law_allowed, od_law_allowed, .func (PySem.W.fnOf "_law_allowed" "_law_allowed" (defArgs s__law_allowed) (defBody s__law_allowed) (defScope s__law_allowed) .none kV_law_allowed dc_law_allowed pm_law_allowed an_law_allowed cd_law_allowed ct_law_allowed), sl_law_allowed⟩)
    (c_law_allowed : PySem.W.codeIn K cd_law_allowed "_law_allowed" = true) (k_law_allowed : PySem.W.keepIn K (.ref f_law_allowed) = true)
    {f_law_step_right : Addr} {od_law_step_right an_law_step_right : Option Addr} {sl_law_step_right : Array (Option Value)} {oc_law_step_right kV_law_step_right dc_law_step_right pm_law_step_right cd_law_step_right ct_law_step_right : Value}
    (a_law_step_right : PySem.W.nsIn K mainGlobals "_law_step_right" = some (some (.ref f_law_step_right)))
    (l_law_step_right : K.lookup f_law_step_right = some ⟨oc_law_step_right, od_law_step_right, .func (PySem.W.fnOf "_law_step_right" "_law_step_right" (defArgs s__law_step_right) (defBody s__law_step_right) (defScope s__law_step_right) .none kV_law_step_right dc_law_step_right pm_law_step_right an_law_step_right cd_law_step_right ct_law_step_right), sl_law_step_right⟩)
    (c_law_step_right : PySem.W.codeIn K cd_law_step_right "_law_step_right" = true) (k_law_step_right : PySem.W.keepIn K (.ref f_law_step_right) = true)
    {f_law_right : Addr} {od_law_right an_law_right : Option Addr} {sl_law_right : Array (Option Value)} {oc_law_right kV_law_right dc_law_right pm_law_right cd_law_right ct_law_right : Value}
    (a_law_right : PySem.W.nsIn K mainGlobals "_law_right" = some (some (.ref f_law_right)))
    (l_law_right : K.lookup f_law_right = some ⟨oc_law_right, od_law_right, .func (PySem.W.fnOf "_law_right" "_law_right" (defArgs s__law_right) (defBody s__law_right) (defScope s__law_right) .none kV_law_right dc_law_right pm_law_right an_law_right cd_law_right ct_law_right), sl_law_right⟩)
    (c_law_right : PySem.W.codeIn K cd_law_right "_law_right" = true) (k_law_right : PySem.W.keepIn K (.ref f_law_right) = true)
    {f_law : Addr} {od_law an_law : Option Addr} {sl_law : Array (Option Value)} {oc_law kV_law dc_law pm_law cd_law ct_law : Value}
    (a_law : PySem.W.nsIn K mainGlobals "law" = some (some (.ref f_law)))
    (l_law : K.lookup f_law = some ⟨oc_law, od_law, .func (PySem.W.fnOf "law" "law" (defArgs s_law) (defBody s_law) (defScope s_law) .none kV_law dc_law pm_law an_law cd_law ct_law), sl_law⟩)
    (c_law : PySem.W.codeIn K cd_law "law" = true) (k_law : PySem.W.keepIn K (.ref f_law) = true)
    (lP : K.lookup aP = some oP) (qP : oP.cls = .type "tuple") (dP : oP.data = .seq iP nP) (sP : iP.size ≤ sizeLine) (vP : Vals [.str "none", .str "even", .str "odd"] iP.toList)
    (lI : K.lookup aI = some oI) (qI : oI.cls = .type "tuple") (dI : oI.data = .seq iI nI) (sI : iI.size ≤ sizeLine) (vI : Vals [.int 0, .int 0, .int 0, .bl true] iI.toList)
    (lR : K.lookup aR = some oR) (dR : oR.data = .seq iR.toArray nR) (vR : Vals [.int 0, .int 60] iR)
    : ∃ fd : FuncData, (∀ (s : Shared) (v : Value), BindsTo s fd ⟨[v], []⟩ [("_law_script", v)]) ∧ ∀ base : Heap, K.In base → base.Ns mainGlobals mg → FnOk l.prog w K mg base CX0 20 fa fd ["_law_script"] (spLaw K) := by
  have e := hfa.symm.trans (PySem.W.mg_of X G a_law)
  cases e
  have B : Bi mg := ⟨PySem.W.mg_none_of X G z_isinstance, PySem.W.mg_none_of X G z_int, PySem.W.mg_none_of X G z_bool, PySem.W.mg_none_of X G z_tuple, PySem.W.mg_none_of X G z_list, PySem.W.mg_none_of X G z_str, PySem.W.mg_none_of X G z_len, PySem.W.mg_none_of X G z_sum, PySem.W.mg_none_of X G z_range, PySem.W.mg_none_of X G z_sorted, PySem.W.mg_none_of X G z_enumerate, PySem.W.mg_none_of X G z_max, PySem.W.mg_none_of X G z_min, PySem.W.mg_none_of X G z_abs⟩
  have T : Tc K mg aP aI t1 t2 t3 := ⟨PySem.W.mg_of X G m_PARITIES, PySem.W.mg_of X G m_IDLE, PySem.W.mg_of X G m_MOST_LEVELS, PySem.W.mg_of X G m_WAITING, PySem.W.mg_of X G m_MOST_ALLOWED, fun _ => .inr ⟨_, _, _, lP, qP, dP, sP, vP⟩, fun _ => .inr ⟨_, _, _, lI, qI, dI, sI, vI⟩⟩
  have F_is_integer := fun_mk (st := s_is_integer) l_is_integer c_is_integer k_is_integer
  have b_is_integer := F_is_integer.binds (ps := ["value"]) fun _ _ _ _ _ _ us hl => match us, hl with | [_], _ => rfl
  have F_frame_size := fun_mk (st := s_frame_size) l_frame_size c_frame_size k_frame_size
  have b_frame_size := F_frame_size.binds (ps := ["shape"]) fun _ _ _ _ _ _ us hl => match us, hl with | [_], _ => rfl
  have F_first_stop := fun_mk (st := s_first_stop) l_first_stop c_first_stop k_first_stop
  have b_first_stop := F_first_stop.binds (ps := ["shape"]) fun _ _ _ _ _ _ us hl => match us, hl with | [_], _ => rfl
  have F_parity_level := fun_mk (st := s_parity_level) l_parity_level c_parity_level k_parity_level
  have b_parity_level := F_parity_level.binds (ps := ["shape", "number"]) fun _ _ _ _ _ _ us hl => match us, hl with | [_, _], _ => rfl
  have F_fits_shape := fun_mk (st := s_fits_shape) l_fits_shape c_fits_shape k_fits_shape
  have b_fits_shape := F_fits_shape.binds (ps := ["shape", "value"]) fun _ _ _ _ _ _ us hl => match us, hl with | [_, _], _ => rfl
  have F_shape_fault := fun_mk (st := s_shape_fault) l_shape_fault c_shape_fault k_shape_fault
  have b_shape_fault := F_shape_fault.binds (ps := ["value"]) fun _ _ _ _ _ _ us hl => match us, hl with | [_], _ => rfl
  have F_require_shape := fun_mk (st := s_require_shape) l_require_shape c_require_shape k_require_shape
  have b_require_shape := F_require_shape.binds (ps := ["shape"]) fun _ _ _ _ _ _ us hl => match us, hl with | [_], _ => rfl
  have F_size_of := fun_mk (st := s_size_of) l_size_of c_size_of k_size_of
  have b_size_of := F_size_of.binds (ps := ["shape"]) fun _ _ _ _ _ _ us hl => match us, hl with | [_], _ => rfl
  have F_require_text : FunD K "require_text" "require_text" (defArgs s_require_text) (defBody s_require_text) (defScope s_require_text) [.int 0, .int 60] [] f_require_text (PySem.W.fnOf "require_text" "require_text" (defArgs s_require_text) (defBody s_require_text) (defScope s_require_text) (.ref aR) kV_require_text dc_require_text pm_require_text an_require_text cd_require_text ct_require_text) := ⟨⟨oc_require_text, od_require_text, .ref aR, kV_require_text, dc_require_text, pm_require_text, an_require_text, cd_require_text, ct_require_text, sl_require_text, rfl, l_require_text, c_require_text, .inr ⟨by simp, aR, oR, iR, nR, rfl, lR, dR, vR⟩, .inl rfl⟩, k_require_text⟩
  obtain ⟨ds2, vs2, bR2⟩ := FunD.binds1 (ps := ["shape", "numbers", "least", "most"]) F_require_text 2 0 (by simp) rfl fun T kV doc pm an cdv ct us its h1 h2 => match us, its, h1, h2 with | [_, _], [_, _], _, _ => ⟨_, rfl, rfl⟩
  obtain ⟨ds4, vs4, bR4⟩ := FunD.binds1 (ps := ["shape", "numbers", "least", "most"]) F_require_text 4 2 (by simp) rfl fun T kV doc pm an cdv ct us its h1 h2 => match us, its, h1, h2 with | [_, _, _, _], [_, _], _, _ => ⟨_, rfl, rfl⟩
  cases vs4
  have F_require_different := fun_mk (st := s_require_different) l_require_different c_require_different k_require_different
  have b_require_different := F_require_different.binds (ps := ["shape", "numbers", "most"]) fun _ _ _ _ _ _ us hl => match us, hl with | [_, _, _], _ => rfl
  have F_require_levels := fun_mk (st := s_require_levels) l_require_levels c_require_levels k_require_levels
  have b_require_levels := F_require_levels.binds (ps := ["levels"]) fun _ _ _ _ _ _ us hl => match us, hl with | [_], _ => rfl
  have F_frame_levels := fun_mk (st := s_frame_levels) l_frame_levels c_frame_levels k_frame_levels
  have b_frame_levels := F_frame_levels.binds (ps := ["shape", "number"]) fun _ _ _ _ _ _ us hl => match us, hl with | [_, _], _ => rfl
  have F_levels_of := fun_mk (st := s_levels_of) l_levels_of c_levels_of k_levels_of
  have b_levels_of := F_levels_of.binds (ps := ["shape", "numbers"]) fun _ _ _ _ _ _ us hl => match us, hl with | [_, _], _ => rfl
  have F_after_level := fun_mk (st := s_after_level) l_after_level c_after_level k_after_level
  have b_after_level := F_after_level.binds (ps := ["shape", "state", "level"]) fun _ _ _ _ _ _ us hl => match us, hl with | [_, _, _], _ => rfl
  have F_readings_of := fun_mk (st := s_readings_of) l_readings_of c_readings_of k_readings_of
  have b_readings_of := F_readings_of.binds (ps := ["shape", "levels", "begin"]) fun _ _ _ _ _ _ us hl => match us, hl with | [_, _, _], _ => rfl
  have F_parsed := fun_mk (st := s_parsed) l_parsed c_parsed k_parsed
  have b_parsed := F_parsed.binds (ps := ["shape", "levels", "begin"]) fun _ _ _ _ _ _ us hl => match us, hl with | [_, _, _], _ => rfl
  have F_state_after := fun_mk (st := s_state_after) l_state_after c_state_after k_state_after
  have b_state_after := F_state_after.binds (ps := ["shape", "state", "number"]) fun _ _ _ _ _ _ us hl => match us, hl with | [_, _, _], _ => rfl
  have F_next_place := fun_mk (st := s_next_place) l_next_place c_next_place k_next_place
  have b_next_place := F_next_place.binds (ps := ["shape", "place", "number"]) fun _ _ _ _ _ _ us hl => match us, hl with | [_, _, _], _ => rfl
  have F_require_place := fun_mk (st := s_require_place) l_require_place c_require_place k_require_place
  have b_require_place := F_require_place.binds (ps := ["shape", "place"]) fun _ _ _ _ _ _ us hl => match us, hl with | [_, _], _ => rfl
  have F_places_along := fun_mk (st := s_places_along) l_places_along c_places_along k_places_along
  have b_places_along := F_places_along.binds (ps := ["shape", "place", "numbers"]) fun _ _ _ _ _ _ us hl => match us, hl with | [_, _, _], _ => rfl
  have F_place_behind := fun_mk (st := s_place_behind) l_place_behind c_place_behind k_place_behind
  have b_place_behind := F_place_behind.binds (ps := ["shape", "place", "numbers"]) fun _ _ _ _ _ _ us hl => match us, hl with | [_, _, _], _ => rfl
  have F_step_text := fun_mk (st := s_step_text) l_step_text c_step_text k_step_text
  have b_step_text := F_step_text.binds (ps := ["shape", "numbers"]) fun _ _ _ _ _ _ us hl => match us, hl with | [_, _], _ => rfl
  have F_law_tank := fun_mk (st := s__law_tank) l_law_tank c_law_tank k_law_tank
  have b_law_tank := F_law_tank.binds (ps := ["_law_script", "_law_at"]) fun _ _ _ _ _ _ us hl => match us, hl with | [_, _], _ => rfl
  have F_law_tap := fun_mk (st := s__law_tap) l_law_tap c_law_tap k_law_tap
  have b_law_tap := F_law_tap.binds (ps := ["_law_tank_here", "_law_many"]) fun _ _ _ _ _ _ us hl => match us, hl with | [_, _], _ => rfl
  have F_law_shape := fun_mk (st := s__law_shape) l_law_shape c_law_shape k_law_shape
  have b_law_shape := F_law_shape.binds (ps := ["_law_tank_here", "_law_most"]) fun _ _ _ _ _ _ us hl => match us, hl with | [_, _], _ => rfl
  have F_law_numbers := fun_mk (st := s__law_numbers) l_law_numbers c_law_numbers k_law_numbers
  have b_law_numbers := F_law_numbers.binds (ps := ["_law_shape_here"]) fun _ _ _ _ _ _ us hl => match us, hl with | [_], _ => rfl
  have F_law_frame := fun_mk (st := s__law_frame) l_law_frame c_law_frame k_law_frame
  have b_law_frame := F_law_frame.binds (ps := ["_law_shape_here", "_law_number"]) fun _ _ _ _ _ _ us hl => match us, hl with | [_, _], _ => rfl
  have F_law_place := fun_mk (st := s__law_place) l_law_place c_law_place k_law_place
  have b_law_place := F_law_place.binds (ps := ["_law_shape_here", "_law_place_here", "_law_levels"]) fun _ _ _ _ _ _ us hl => match us, hl with | [_, _, _], _ => rfl
  have F_law_maps := fun_mk (st := s__law_maps) l_law_maps c_law_maps k_law_maps
  have b_law_maps := F_law_maps.binds (ps := ["_law_shape_here", "_law_numbers_here"]) fun _ _ _ _ _ _ us hl => match us, hl with | [_, _], _ => rfl
  have F_law_allowed := fun_mk (st := s__law_allowed) l_law_allowed c_law_allowed k_law_allowed
  have b_law_allowed := F_law_allowed.binds (ps := ["_law_tank_here", "_law_shape_here", "_law_most"]) fun _ _ _ _ _ _ us hl => match us, hl with | [_, _, _], _ => rfl
  have F_law_step_right := fun_mk (st := s__law_step_right) l_law_step_right c_law_step_right k_law_step_right
  have b_law_step_right := F_law_step_right.binds (ps := ["_law_tank_here", "_law_shape_here", "_law_text"]) fun _ _ _ _ _ _ us hl => match us, hl with | [_, _, _], _ => rfl
  have F_law_right := fun_mk (st := s__law_right) l_law_right c_law_right k_law_right
  have b_law_right := F_law_right.binds (ps := ["_law_tank_here", "_law_shape_here", "_law_numbers_here"]) fun _ _ _ _ _ _ us hl => match us, hl with | [_, _, _], _ => rfl
  have F_law := fun_mk (st := s_law) l_law c_law k_law
  refine ⟨PySem.W.fnOf "law" "law" (defArgs s_law) (defBody s_law) (defScope s_law) .none kV_law dc_law pm_law an_law cd_law ct_law, fun s v => .of_eq rfl, fun base _ _ => ?_⟩
  have C_is_integer : Cal l.prog w K mg base 1 "is_integer" ["value"] [] sp_is_integer := ⟨⟨_, _, [], (ok_is_integer (P := l.prog) (w := w) (base := base) (k := 0) F_is_integer B), PySem.W.mg_of X G a_is_integer, k_is_integer, b_is_integer, .nil⟩⟩
  have C_frame_size : Cal l.prog w K mg base 1 "frame_size" ["shape"] [] sp_frame_size := ⟨⟨_, _, [], (ok_frame_size (P := l.prog) (w := w) (base := base) (k := 0) F_frame_size B), PySem.W.mg_of X G a_frame_size, k_frame_size, b_frame_size, .nil⟩⟩
  have C_first_stop : Cal l.prog w K mg base 2 "first_stop" ["shape"] [] sp_first_stop := ⟨⟨_, _, [], (ok_first_stop (P := l.prog) (w := w) (base := base) (k := 1) F_first_stop (C_frame_size.mono (by decide))), PySem.W.mg_of X G a_first_stop, k_first_stop, b_first_stop, .nil⟩⟩
  have C_parity_level : Cal l.prog w K mg base 1 "parity_level" ["shape", "number"] [] sp_parity_level := ⟨⟨_, _, [], (ok_parity_level (P := l.prog) (w := w) (base := base) (k := 0) F_parity_level B), PySem.W.mg_of X G a_parity_level, k_parity_level, b_parity_level, .nil⟩⟩
  have C_fits_shape : Cal l.prog w K mg base 2 "fits_shape" ["shape", "value"] [] sp_fits_shape := ⟨⟨_, _, [], (ok_fits_shape (P := l.prog) (w := w) (base := base) (k := 1) F_fits_shape (C_is_integer.mono (by decide))), PySem.W.mg_of X G a_fits_shape, k_fits_shape, b_fits_shape, .nil⟩⟩
  have C_shape_fault : Cal l.prog w K mg base 2 "shape_fault" ["value"] [] sp_shape_fault := ⟨⟨_, _, [], (ok_shape_fault (P := l.prog) (w := w) (base := base) (k := 1) F_shape_fault B T (C_is_integer.mono (by decide))), PySem.W.mg_of X G a_shape_fault, k_shape_fault, b_shape_fault, .nil⟩⟩
  have C_require_shape : Cal l.prog w K mg base 3 "require_shape" ["shape"] [] sp_require_shape := ⟨⟨_, _, [], (ok_require_shape (P := l.prog) (w := w) (base := base) (k := 2) F_require_shape (C_shape_fault.mono (by decide))), PySem.W.mg_of X G a_require_shape, k_require_shape, b_require_shape, .nil⟩⟩
  have C_size_of : Cal l.prog w K mg base 4 "size_of" ["shape"] [] sp_size_of := ⟨⟨_, _, [], (ok_size_of (P := l.prog) (w := w) (base := base) (k := 3) F_size_of (C_require_shape.mono (by decide)) (C_frame_size.mono (by decide))), PySem.W.mg_of X G a_size_of, k_size_of, b_size_of, .nil⟩⟩
  have C_require_text : Cal l.prog w K mg base 3 "require_text" ["shape", "numbers", "least", "most"] [.int 0, .int 60] sp_require_text := ⟨⟨_, _, ds2, (ok_require_text (P := l.prog) (w := w) (base := base) (k := 2) F_require_text B (C_fits_shape.mono (by decide))), PySem.W.mg_of X G a_require_text, k_require_text, bR2, vs2⟩⟩
  have C4_require_text : Cal l.prog w K mg base 3 "require_text" ["shape", "numbers", "least", "most"] [] sp_require_text := ⟨⟨_, _, [], (ok_require_text (P := l.prog) (w := w) (base := base) (k := 2) F_require_text B (C_fits_shape.mono (by decide))), PySem.W.mg_of X G a_require_text, k_require_text, bR4, .nil⟩⟩
  have C_require_different : Cal l.prog w K mg base 3 "require_different" ["shape", "numbers", "most"] [] sp_require_different := ⟨⟨_, _, [], (ok_require_different (P := l.prog) (w := w) (base := base) (k := 2) F_require_different B (C_fits_shape.mono (by decide))), PySem.W.mg_of X G a_require_different, k_require_different, b_require_different, .nil⟩⟩
  have C_require_levels : Cal l.prog w K mg base 2 "require_levels" ["levels"] [] sp_require_levels := ⟨⟨_, _, [], (ok_require_levels (P := l.prog) (w := w) (base := base) (k := 1) F_require_levels B T (C_is_integer.mono (by decide))), PySem.W.mg_of X G a_require_levels, k_require_levels, b_require_levels, .nil⟩⟩
  have C_frame_levels : Cal l.prog w K mg base 2 "frame_levels" ["shape", "number"] [] sp_frame_levels := ⟨⟨_, _, [], (ok_frame_levels (P := l.prog) (w := w) (base := base) (k := 1) F_frame_levels B (C_parity_level.mono (by decide))), PySem.W.mg_of X G a_frame_levels, k_frame_levels, b_frame_levels, .nil⟩⟩
  have C_levels_of : Cal l.prog w K mg base 4 "levels_of" ["shape", "numbers"] [] sp_levels_of := ⟨⟨_, _, [], (ok_levels_of (P := l.prog) (w := w) (base := base) (k := 3) F_levels_of (C_require_shape.mono (by decide)) (C_require_text.mono (by decide)) (C_frame_levels.mono (by decide))), PySem.W.mg_of X G a_levels_of, k_levels_of, b_levels_of, .nil⟩⟩
  have C_after_level : Cal l.prog w K mg base 3 "after_level" ["shape", "state", "level"] [] (sp_after_level K) := ⟨⟨_, _, [], (ok_after_level (P := l.prog) (w := w) (base := base) (k := 2) F_after_level B T (C_first_stop.mono (by decide)) (C_frame_size.mono (by decide))), PySem.W.mg_of X G a_after_level, k_after_level, b_after_level, .nil⟩⟩
  have C_readings_of : Cal l.prog w K mg base 4 "readings_of" ["shape", "levels", "begin"] [] sp_readings_of := ⟨⟨_, _, [], (ok_readings_of (P := l.prog) (w := w) (base := base) (k := 3) F_readings_of B T (C_after_level.mono (by decide)) (C_frame_size.mono (by decide))), PySem.W.mg_of X G a_readings_of, k_readings_of, b_readings_of, .nil⟩⟩
  have C_parsed : Cal l.prog w K mg base 5 "parsed" ["shape", "levels", "begin"] [] sp_readings_of := ⟨⟨_, _, [], (ok_parsed (P := l.prog) (w := w) (base := base) (k := 4) F_parsed B (C_require_shape.mono (by decide)) (C_require_levels.mono (by decide)) (C_is_integer.mono (by decide)) (C_readings_of.mono (by decide))), PySem.W.mg_of X G a_parsed, k_parsed, b_parsed, .nil⟩⟩
  have C_state_after : Cal l.prog w K mg base 4 "state_after" ["shape", "state", "number"] [] (sp_state_after K) := ⟨⟨_, _, [], (ok_state_after (P := l.prog) (w := w) (base := base) (k := 3) F_state_after (C_frame_levels.mono (by decide)) (C_after_level.mono (by decide))), PySem.W.mg_of X G a_state_after, k_state_after, b_state_after, .nil⟩⟩
  have C_next_place : Cal l.prog w K mg base 5 "next_place" ["shape", "place", "number"] [] sp_next_place := ⟨⟨_, _, [], (ok_next_place (P := l.prog) (w := w) (base := base) (k := 4) F_next_place (C_state_after.mono (by decide))), PySem.W.mg_of X G a_next_place, k_next_place, b_next_place, .nil⟩⟩
  have C_require_place : Cal l.prog w K mg base 2 "require_place" ["shape", "place"] [] sp_require_place := ⟨⟨_, _, [], (ok_require_place (P := l.prog) (w := w) (base := base) (k := 1) F_require_place (C_is_integer.mono (by decide)) (C_frame_size.mono (by decide))), PySem.W.mg_of X G a_require_place, k_require_place, b_require_place, .nil⟩⟩
  have C_places_along : Cal l.prog w K mg base 6 "places_along" ["shape", "place", "numbers"] [] sp_places_along := ⟨⟨_, _, [], (ok_places_along (P := l.prog) (w := w) (base := base) (k := 5) F_places_along (C_require_shape.mono (by decide)) (C_require_place.mono (by decide)) (C4_require_text.mono (by decide)) (C_next_place.mono (by decide))), PySem.W.mg_of X G a_places_along, k_places_along, b_places_along, .nil⟩⟩
  have C_place_behind : Cal l.prog w K mg base 7 "place_behind" ["shape", "place", "numbers"] [] sp_place_behind := ⟨⟨_, _, [], (ok_place_behind (P := l.prog) (w := w) (base := base) (k := 6) F_place_behind (C_places_along.mono (by decide))), PySem.W.mg_of X G a_place_behind, k_place_behind, b_place_behind, .nil⟩⟩
  have C_step_text : Cal l.prog w K mg base 6 "step_text" ["shape", "numbers"] [] sp_step_text := ⟨⟨_, _, [], (ok_step_text (P := l.prog) (w := w) (base := base) (k := 5) F_step_text B T (C_require_shape.mono (by decide)) (C_require_different.mono (by decide)) (C_frame_size.mono (by decide)) (C_next_place.mono (by decide))), PySem.W.mg_of X G a_step_text, k_step_text, b_step_text, .nil⟩⟩
  have C_law_tank : Cal l.prog w K mg base 1 "_law_tank" ["_law_script", "_law_at"] [] (sp_tank K) := ⟨⟨_, _, [], (ok__law_tank (P := l.prog) (w := w) (base := base) (k := 0) F_law_tank B), PySem.W.mg_of X G a_law_tank, k_law_tank, b_law_tank, .nil⟩⟩
  have C_law_tap : Cal l.prog w K mg base 1 "_law_tap" ["_law_tank_here", "_law_many"] [] sp_tap := ⟨⟨_, _, [], (ok__law_tap (P := l.prog) (w := w) (base := base) (k := 0) F_law_tap B), PySem.W.mg_of X G a_law_tap, k_law_tap, b_law_tap, .nil⟩⟩
  have C_law_shape : Cal l.prog w K mg base 2 "_law_shape" ["_law_tank_here", "_law_most"] [] sp_shape := ⟨⟨_, _, [], (ok__law_shape (P := l.prog) (w := w) (base := base) (k := 1) F_law_shape (C_law_tap.mono (by decide))), PySem.W.mg_of X G a_law_shape, k_law_shape, b_law_shape, .nil⟩⟩
  have C_law_numbers : Cal l.prog w K mg base 1 "_law_numbers" ["_law_shape_here"] [] sp_numbers := ⟨⟨_, _, [], (ok__law_numbers (P := l.prog) (w := w) (base := base) (k := 0) F_law_numbers B), PySem.W.mg_of X G a_law_numbers, k_law_numbers, b_law_numbers, .nil⟩⟩
  have C_law_frame : Cal l.prog w K mg base 1 "_law_frame" ["_law_shape_here", "_law_number"] [] sp_frame := ⟨⟨_, _, [], (ok__law_frame (P := l.prog) (w := w) (base := base) (k := 0) F_law_frame B), PySem.W.mg_of X G a_law_frame, k_law_frame, b_law_frame, .nil⟩⟩
  have C_law_place : Cal l.prog w K mg base 1 "_law_place" ["_law_shape_here", "_law_place_here", "_law_levels"] [] sp_place := ⟨⟨_, _, [], (ok__law_place (P := l.prog) (w := w) (base := base) (k := 0) F_law_place B), PySem.W.mg_of X G a_law_place, k_law_place, b_law_place, .nil⟩⟩
  have C_law_maps : Cal l.prog w K mg base 2 "_law_maps" ["_law_shape_here", "_law_numbers_here"] [] sp_maps := ⟨⟨_, _, [], (ok__law_maps (P := l.prog) (w := w) (base := base) (k := 1) F_law_maps B (C_law_frame.mono (by decide)) (C_law_place.mono (by decide))), PySem.W.mg_of X G a_law_maps, k_law_maps, b_law_maps, .nil⟩⟩
  have C_law_allowed : Cal l.prog w K mg base 3 "_law_allowed" ["_law_tank_here", "_law_shape_here", "_law_most"] [] sp_allowed := ⟨⟨_, _, [], (ok__law_allowed (P := l.prog) (w := w) (base := base) (k := 2) F_law_allowed B (C_law_numbers.mono (by decide)) (C_law_maps.mono (by decide)) (C_law_tap.mono (by decide))), PySem.W.mg_of X G a_law_allowed, k_law_allowed, b_law_allowed, .nil⟩⟩
  have C_law_step_right : Cal l.prog w K mg base 7 "_law_step_right" ["_law_tank_here", "_law_shape_here", "_law_text"] [] sp_step_right := ⟨⟨_, _, [], (ok__law_step_right (P := l.prog) (w := w) (base := base) (k := 6) F_law_step_right B (C_law_tap.mono (by decide)) (C_law_numbers.mono (by decide)) (C_levels_of.mono (by decide)) (C_size_of.mono (by decide)) (C_parsed.mono (by decide)) (C_places_along.mono (by decide))), PySem.W.mg_of X G a_law_step_right, k_law_step_right, b_law_step_right, .nil⟩⟩
  have C_law_right : Cal l.prog w K mg base 8 "_law_right" ["_law_tank_here", "_law_shape_here", "_law_numbers_here"] [] sp_right := ⟨⟨_, _, [], (ok__law_right (P := l.prog) (w := w) (base := base) (k := 7) F_law_right B (C_step_text.mono (by decide)) (C_law_step_right.mono (by decide)) (C_law_tap.mono (by decide)) (C_size_of.mono (by decide)) (C_place_behind.mono (by decide))), PySem.W.mg_of X G a_law_right, k_law_right, b_law_right, .nil⟩⟩
  exact (ok_law (P := l.prog) (w := w) (base := base) (k := 8) F_law B (C_law_tank.mono (by decide)) (C_law_shape.mono (by decide)) (C_law_right.mono (by decide)) (C_law_allowed.mono (by decide)) (C_law_step_right.mono (by decide))).mono (by decide)
end Sb

open PySem PySem.W PyProof.Rows
set_option maxRecDepth 100000 in
set_option maxHeartbeats 0 in
theorem PySem.Challenge.cw_startbits_k84_whole_into_step_holds : PySem.Challenge.rw_startbits_k84_whole_into_step.Holds := by
  w_on; o_law; k_head; (case hw => w_witness2)
  k_fill
  refine L2.walk_of (l := PySem.Challenge.rw_startbits_k84_whole_into_step) (n := 63) (k := 20) (x := "_law_script") (CX := fun _ => L2.CX0) (sp := fun w => Sb.spLaw _) rfl (by decide) rfl ⟨rfl, by decide, by decide⟩ (fun w h Y => PySem.W.kIn_of Y) ?F (fun _ _ a ns hl _ hS => ⟨a, ns, rfl, hS, hl, fun _ => rfl⟩) (fun _ _ _ _ _ h => h)
  case F =>
    intro w mg fa h KX G hmg
    refine' Sb.all_mk KX G hmg ?z_isinstance ?z_int ?z_bool ?z_tuple ?z_list ?z_str ?z_len ?z_sum ?z_range ?z_sorted ?z_enumerate ?z_max ?z_min ?z_abs ?m_PARITIES ?m_IDLE ?m_MOST_LEVELS ?m_WAITING ?m_MOST_ALLOWED ?a_is_integer ?l_is_integer ?c_is_integer ?k_is_integer ?a_frame_size ?l_frame_size ?c_frame_size ?k_frame_size ?a_first_stop ?l_first_stop ?c_first_stop ?k_first_stop ?a_parity_level ?l_parity_level ?c_parity_level ?k_parity_level ?a_fits_shape ?l_fits_shape ?c_fits_shape ?k_fits_shape ?a_shape_fault ?l_shape_fault ?c_shape_fault ?k_shape_fault ?a_require_shape ?l_require_shape ?c_require_shape ?k_require_shape ?a_size_of ?l_size_of ?c_size_of ?k_size_of ?a_require_text ?l_require_text ?c_require_text ?k_require_text ?a_require_different ?l_require_different ?c_require_different ?k_require_different ?a_require_levels ?l_require_levels ?c_require_levels ?k_require_levels ?a_frame_levels ?l_frame_levels ?c_frame_levels ?k_frame_levels ?a_levels_of ?l_levels_of ?c_levels_of ?k_levels_of ?a_after_level ?l_after_level ?c_after_level ?k_after_level ?a_readings_of ?l_readings_of ?c_readings_of ?k_readings_of ?a_parsed ?l_parsed ?c_parsed ?k_parsed ?a_state_after ?l_state_after ?c_state_after ?k_state_after ?a_next_place ?l_next_place ?c_next_place ?k_next_place ?a_require_place ?l_require_place ?c_require_place ?k_require_place ?a_places_along ?l_places_along ?c_places_along ?k_places_along ?a_place_behind ?l_place_behind ?c_place_behind ?k_place_behind ?a_step_text ?l_step_text ?c_step_text ?k_step_text ?a_law_tank ?l_law_tank ?c_law_tank ?k_law_tank ?a_law_tap ?l_law_tap ?c_law_tap ?k_law_tap ?a_law_shape ?l_law_shape ?c_law_shape ?k_law_shape ?a_law_numbers ?l_law_numbers ?c_law_numbers ?k_law_numbers ?a_law_frame ?l_law_frame ?c_law_frame ?k_law_frame ?a_law_place ?l_law_place ?c_law_place ?k_law_place ?a_law_maps ?l_law_maps ?c_law_maps ?k_law_maps ?a_law_allowed ?l_law_allowed ?c_law_allowed ?k_law_allowed ?a_law_step_right ?l_law_step_right ?c_law_step_right ?k_law_step_right ?a_law_right ?l_law_right ?c_law_right ?k_law_right ?a_law ?l_law ?c_law ?k_law ?lP ?qP ?dP ?sP ?vP ?lI ?qI ?dI ?sI ?vI ?lR ?dR ?vR
    (case z_isinstance => k_is)
    (case z_int => k_is)
    (case z_bool => k_is)
    (case z_tuple => k_is)
    (case z_list => k_is)
    (case z_str => k_is)
    (case z_len => k_is)
    (case z_sum => k_is)
    (case z_range => k_is)
    (case z_sorted => k_is)
    (case z_enumerate => k_is)
    (case z_max => k_is)
    (case z_min => k_is)
    (case z_abs => k_is)
    (case m_PARITIES => k_is)
    (case m_IDLE => k_is)
    (case m_MOST_LEVELS => k_is)
    (case m_WAITING => k_is)
    (case m_MOST_ALLOWED => k_is)
    (case a_is_integer => k_is)
    (case l_is_integer => k_is)
    (case c_is_integer => k_is)
    (case k_is_integer => k_is)
    (case a_frame_size => k_is)
    (case l_frame_size => k_is)
    (case c_frame_size => k_is)
    (case k_frame_size => k_is)
    (case a_first_stop => k_is)
    (case l_first_stop => k_is)
    (case c_first_stop => k_is)
    (case k_first_stop => k_is)
    (case a_parity_level => k_is)
    (case l_parity_level => k_is)
    (case c_parity_level => k_is)
    (case k_parity_level => k_is)
    (case a_fits_shape => k_is)
    (case l_fits_shape => k_is)
    (case c_fits_shape => k_is)
    (case k_fits_shape => k_is)
    (case a_shape_fault => k_is)
    (case l_shape_fault => k_is)
    (case c_shape_fault => k_is)
    (case k_shape_fault => k_is)
    (case a_require_shape => k_is)
    (case l_require_shape => k_is)
    (case c_require_shape => k_is)
    (case k_require_shape => k_is)
    (case a_size_of => k_is)
    (case l_size_of => k_is)
    (case c_size_of => k_is)
    (case k_size_of => k_is)
    (case a_require_text => k_is)
    (case l_require_text => k_is)
    (case c_require_text => k_is)
    (case k_require_text => k_is)
    (case a_require_different => k_is)
    (case l_require_different => k_is)
    (case c_require_different => k_is)
    (case k_require_different => k_is)
    (case a_require_levels => k_is)
    (case l_require_levels => k_is)
    (case c_require_levels => k_is)
    (case k_require_levels => k_is)
    (case a_frame_levels => k_is)
    (case l_frame_levels => k_is)
    (case c_frame_levels => k_is)
    (case k_frame_levels => k_is)
    (case a_levels_of => k_is)
    (case l_levels_of => k_is)
    (case c_levels_of => k_is)
    (case k_levels_of => k_is)
    (case a_after_level => k_is)
    (case l_after_level => k_is)
    (case c_after_level => k_is)
    (case k_after_level => k_is)
    (case a_readings_of => k_is)
    (case l_readings_of => k_is)
    (case c_readings_of => k_is)
    (case k_readings_of => k_is)
    (case a_parsed => k_is)
    (case l_parsed => k_is)
    (case c_parsed => k_is)
    (case k_parsed => k_is)
    (case a_state_after => k_is)
    (case l_state_after => k_is)
    (case c_state_after => k_is)
    (case k_state_after => k_is)
    (case a_next_place => k_is)
    (case l_next_place => k_is)
    (case c_next_place => k_is)
    (case k_next_place => k_is)
    (case a_require_place => k_is)
    (case l_require_place => k_is)
    (case c_require_place => k_is)
    (case k_require_place => k_is)
    (case a_places_along => k_is)
    (case l_places_along => k_is)
    (case c_places_along => k_is)
    (case k_places_along => k_is)
    (case a_place_behind => k_is)
    (case l_place_behind => k_is)
    (case c_place_behind => k_is)
    (case k_place_behind => k_is)
    (case a_step_text => k_is)
    (case l_step_text => k_is)
    (case c_step_text => k_is)
    (case k_step_text => k_is)
    (case a_law_tank => k_is)
    (case l_law_tank => k_is)
    (case c_law_tank => k_is)
    (case k_law_tank => k_is)
    (case a_law_tap => k_is)
    (case l_law_tap => k_is)
    (case c_law_tap => k_is)
    (case k_law_tap => k_is)
    (case a_law_shape => k_is)
    (case l_law_shape => k_is)
    (case c_law_shape => k_is)
    (case k_law_shape => k_is)
    (case a_law_numbers => k_is)
    (case l_law_numbers => k_is)
    (case c_law_numbers => k_is)
    (case k_law_numbers => k_is)
    (case a_law_frame => k_is)
    (case l_law_frame => k_is)
    (case c_law_frame => k_is)
    (case k_law_frame => k_is)
    (case a_law_place => k_is)
    (case l_law_place => k_is)
    (case c_law_place => k_is)
    (case k_law_place => k_is)
    (case a_law_maps => k_is)
    (case l_law_maps => k_is)
    (case c_law_maps => k_is)
    (case k_law_maps => k_is)
    (case a_law_allowed => k_is)
    (case l_law_allowed => k_is)
    (case c_law_allowed => k_is)
    (case k_law_allowed => k_is)
    (case a_law_step_right => k_is)
    (case l_law_step_right => k_is)
    (case c_law_step_right => k_is)
    (case k_law_step_right => k_is)
    (case a_law_right => k_is)
    (case l_law_right => k_is)
    (case c_law_right => k_is)
    (case k_law_right => k_is)
    (case a_law => k_is)
    (case l_law => k_is)
    (case c_law => k_is)
    (case k_law => k_is)
    (case lP => k_is)
    (case qP => exact rfl)
    (case dP => exact rfl)
    (case sP => decide)
    (case vP => exact .cons ⟨_, rfl⟩ (.cons ⟨_, rfl⟩ (.cons ⟨_, rfl⟩ .nil)))
    (case lI => k_is)
    (case qI => exact rfl)
    (case dI => exact rfl)
    (case sI => decide)
    (case vI => exact .cons ⟨_, rfl⟩ (.cons ⟨_, rfl⟩ (.cons ⟨_, rfl⟩ (.cons rfl .nil))))
    (case lR => k_is)
    (case dR => exact rfl)
    (case vR => exact .cons ⟨_, rfl⟩ (.cons ⟨_, rfl⟩ .nil))

