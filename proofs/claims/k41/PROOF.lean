import PyProof.Rows.All
import Wide.All
import OpenK.AllK
import Wide.FinOn
import HandS.ForMost
import HandS.More
import HandS.SetKeys
import HandS.Walk
import KE.KDictKeyed
import KE.KDictWalk
import KE.KDictDisplayH
import HandS.SortInts
import HandS.Style
import HandS.TupAny
import HandS.IsInst
import HandS.Rev
import HandS.Wide
import HandS.NoneIn
import HandS.Flow
import HandS.Defaults
import HandS.Conv
import PySem.Challenge.RW_hookmats_k41_whole_closed_braids_by_all
set_option Elab.async false
set_option maxRecDepth 100000
set_option linter.all false
set_option synthInstance.maxSize 2000
set_option synthInstance.maxHeartbeats 400000
/-! KMath: braid words, mats of one to five strings by their numbers, sums over all choices: plain Lean. -/
namespace KB
/-- the mats of n strings: the mates of each -/
def matsT : List (List (List Nat)) := [[],
  [[1, 0]],
  [[2, 3, 0, 1], [1, 0, 3, 2]],
  [[3, 4, 5, 0, 1, 2], [1, 0, 5, 4, 3, 2], [3, 2, 1, 0, 5, 4], [1, 0, 3, 2, 5, 4], [5, 2, 1, 4, 3, 0]],
  [[4, 5, 6, 7, 0, 1, 2, 3], [1, 0, 6, 7, 5, 4, 2, 3], [4, 2, 1, 7, 0, 6, 5, 3], [4, 5, 3, 2, 0, 1, 7, 6], [1, 0, 4, 7, 2, 6, 5, 3], [1, 0, 3, 2, 5, 4, 7, 6], [6, 2, 1, 7, 5, 4, 0, 3], [4, 2, 1, 5, 0, 3, 7, 6], [4, 7, 3, 2, 0, 6, 5, 1], [1, 0, 4, 5, 2, 3, 7, 6], [1, 0, 3, 2, 7, 6, 5, 4], [3, 2, 1, 0, 5, 4, 7, 6], [6, 7, 3, 2, 5, 4, 0, 1], [3, 2, 1, 0, 7, 6, 5, 4]],
  [[5, 6, 7, 8, 9, 0, 1, 2, 3, 4], [1, 0, 7, 8, 9, 6, 5, 2, 3, 4], [5, 2, 1, 8, 9, 0, 7, 6, 3, 4], [5, 6, 3, 2, 9, 0, 1, 8, 7, 4], [5, 6, 7, 4, 3, 0, 1, 2, 9, 8], [1, 0, 5, 8, 9, 2, 7, 6, 3, 4], [1, 0, 3, 2, 9, 6, 5, 8, 7, 4], [1, 0, 7, 4, 3, 6, 5, 2, 9, 8], [7, 2, 1, 8, 9, 6, 5, 0, 3, 4], [5, 2, 1, 6, 9, 0, 3, 8, 7, 4], [5, 2, 1, 4, 3, 0, 7, 6, 9, 8], [5, 8, 3, 2, 9, 0, 7, 6, 1, 4], [5, 6, 3, 2, 7, 0, 1, 4, 9, 8], [5, 6, 9, 4, 3, 0, 1, 8, 7, 2], [1, 0, 5, 6, 9, 2, 3, 8, 7, 4], [1, 0, 5, 4, 3, 2, 7, 6, 9, 8], [1, 0, 3, 2, 9, 8, 7, 6, 5, 4], [1, 0, 3, 2, 7, 6, 5, 4, 9, 8], [1, 0, 9, 4, 3, 6, 5, 8, 7, 2], [3, 2, 1, 0, 9, 6, 5, 8, 7, 4], [7, 2, 1, 4, 3, 6, 5, 0, 9, 8], [5, 2, 1, 6, 7, 0, 3, 4, 9, 8], [5, 2, 1, 4, 3, 0, 9, 8, 7, 6], [7, 8, 3, 2, 9, 6, 5, 0, 1, 4], [5, 4, 3, 2, 1, 0, 7, 6, 9, 8], [5, 8, 9, 4, 3, 0, 7, 6, 1, 2], [1, 0, 5, 6, 7, 2, 3, 4, 9, 8], [1, 0, 5, 4, 3, 2, 9, 8, 7, 6], [1, 0, 3, 2, 5, 4, 7, 6, 9, 8], [1, 0, 9, 4, 3, 8, 7, 6, 5, 2], [3, 2, 1, 0, 9, 8, 7, 6, 5, 4], [3, 2, 1, 0, 7, 6, 5, 4, 9, 8], [9, 2, 1, 4, 3, 6, 5, 8, 7, 0], [7, 4, 3, 2, 1, 6, 5, 0, 9, 8], [5, 4, 3, 2, 1, 0, 9, 8, 7, 6], [7, 8, 9, 4, 3, 6, 5, 0, 1, 2], [1, 0, 3, 2, 5, 4, 9, 8, 7, 6], [3, 2, 1, 0, 5, 4, 7, 6, 9, 8], [9, 2, 1, 4, 3, 8, 7, 6, 5, 0], [9, 4, 3, 2, 1, 6, 5, 8, 7, 0], [3, 2, 1, 0, 5, 4, 9, 8, 7, 6], [9, 4, 3, 2, 1, 8, 7, 6, 5, 0]]]
/-- a hook behind: rings, mat -/
def rightT : List (List (List (Nat × Nat))) := [[],
  [[]],
  [[(0, 1)], [(1, 1)]],
  [[(0, 1), (0, 2)], [(1, 1), (0, 3)], [(0, 4), (1, 2)], [(0, 1), (1, 3)], [(1, 4), (0, 2)]],
  [[(0, 1), (0, 2), (0, 3)], [(1, 1), (0, 4), (0, 5)], [(0, 6), (1, 2), (0, 7)], [(0, 5), (0, 8), (1, 3)], [(0, 1), (1, 4), (0, 9)], [(1, 5), (0, 10), (1, 5)], [(1, 6), (0, 2), (0, 11)], [(0, 11), (0, 2), (1, 7)], [(0, 12), (1, 8), (0, 3)], [(0, 5), (0, 4), (1, 9)], [(0, 5), (1, 10), (0, 5)], [(1, 11), (0, 13), (1, 11)], [(1, 12), (0, 8), (0, 5)], [(0, 11), (1, 13), (0, 11)]],
  [[(0, 1), (0, 2), (0, 3), (0, 4)], [(1, 1), (0, 5), (0, 6), (0, 7)], [(0, 8), (1, 2), (0, 9), (0, 10)], [(0, 6), (0, 11), (1, 3), (0, 12)], [(0, 7), (0, 10), (0, 13), (1, 4)], [(0, 1), (1, 5), (0, 14), (0, 15)], [(1, 6), (0, 16), (1, 6), (0, 17)], [(1, 7), (0, 15), (0, 18), (1, 7)], [(1, 8), (0, 2), (0, 19), (0, 20)], [(0, 19), (0, 2), (1, 9), (0, 21)], [(0, 20), (1, 10), (0, 22), (1, 10)], [(0, 23), (1, 11), (0, 3), (0, 24)], [(0, 17), (0, 24), (0, 3), (1, 12)], [(0, 18), (0, 25), (1, 13), (0, 4)], [(0, 6), (0, 5), (1, 14), (0, 26)], [(0, 7), (1, 15), (0, 27), (1, 15)], [(0, 6), (1, 16), (0, 6), (0, 28)], [(1, 17), (0, 28), (0, 6), (1, 17)], [(1, 18), (0, 29), (1, 18), (0, 7)], [(1, 19), (0, 30), (1, 19), (0, 31)], [(1, 20), (0, 10), (0, 32), (1, 20)], [(0, 31), (0, 10), (0, 9), (1, 21)], [(0, 32), (0, 10), (1, 22), (0, 10)], [(1, 23), (0, 11), (0, 6), (0, 33)], [(0, 33), (1, 24), (0, 34), (1, 24)], [(0, 35), (1, 25), (0, 13), (0, 10)], [(0, 17), (0, 15), (0, 14), (1, 26)], [(0, 18), (0, 15), (1, 27), (0, 15)], [(0, 17), (1, 28), (0, 36), (1, 28)], [(0, 18), (1, 29), (0, 18), (0, 15)], [(0, 19), (1, 30), (0, 19), (0, 37)], [(1, 31), (0, 37), (0, 19), (1, 31)], [(1, 32), (0, 38), (1, 32), (0, 20)], [(1, 33), (0, 24), (0, 39), (1, 33)], [(0, 39), (0, 24), (1, 34), (0, 24)], [(1, 35), (0, 25), (0, 18), (0, 20)], [(0, 6), (0, 28), (1, 36), (0, 28)], [(0, 31), (1, 37), (0, 40), (1, 37)], [(0, 32), (1, 38), (0, 32), (0, 10)], [(1, 39), (0, 41), (1, 39), (0, 33)], [(0, 19), (0, 37), (1, 40), (0, 37)], [(0, 39), (1, 41), (0, 39), (0, 24)]]]
/-- a hook ahead -/
def leftT : List (List (List (Nat × Nat))) := [[],
  [[]],
  [[(0, 1)], [(1, 1)]],
  [[(0, 1), (0, 2)], [(1, 1), (0, 4)], [(0, 3), (1, 2)], [(1, 3), (0, 2)], [(0, 1), (1, 4)]],
  [[(0, 1), (0, 2), (0, 3)], [(1, 1), (0, 6), (0, 5)], [(0, 4), (1, 2), (0, 8)], [(0, 5), (0, 7), (1, 3)], [(1, 4), (0, 2), (0, 10)], [(1, 5), (0, 11), (1, 5)], [(0, 1), (1, 6), (0, 12)], [(0, 9), (1, 7), (0, 3)], [(0, 10), (0, 2), (1, 8)], [(1, 9), (0, 7), (0, 5)], [(1, 10), (0, 13), (1, 10)], [(0, 5), (1, 11), (0, 5)], [(0, 5), (0, 6), (1, 12)], [(0, 10), (1, 13), (0, 10)]],
  [[(0, 1), (0, 2), (0, 3), (0, 4)], [(1, 1), (0, 8), (0, 6), (0, 7)], [(0, 5), (1, 2), (0, 11), (0, 10)], [(0, 6), (0, 9), (1, 3), (0, 13)], [(0, 7), (0, 10), (0, 12), (1, 4)], [(1, 5), (0, 2), (0, 16), (0, 15)], [(1, 6), (0, 19), (1, 6), (0, 18)], [(1, 7), (0, 20), (0, 17), (1, 7)], [(0, 1), (1, 8), (0, 23), (0, 20)], [(0, 14), (1, 9), (0, 3), (0, 22)], [(0, 15), (1, 10), (0, 24), (1, 10)], [(0, 16), (0, 2), (1, 11), (0, 25)], [(0, 17), (0, 21), (1, 12), (0, 4)], [(0, 18), (0, 22), (0, 3), (1, 13)], [(1, 14), (0, 9), (0, 6), (0, 27)], [(1, 15), (0, 10), (0, 28), (1, 15)], [(1, 16), (0, 30), (1, 16), (0, 29)], [(1, 17), (0, 31), (1, 17), (0, 7)], [(1, 18), (0, 32), (0, 6), (1, 18)], [(0, 6), (1, 19), (0, 6), (0, 32)], [(0, 7), (1, 20), (0, 33), (1, 20)], [(0, 26), (1, 21), (0, 12), (0, 10)], [(0, 27), (1, 22), (0, 34), (1, 22)], [(0, 6), (0, 8), (1, 23), (0, 35)], [(0, 28), (0, 10), (1, 24), (0, 10)], [(0, 29), (0, 10), (0, 11), (1, 25)], [(1, 26), (0, 21), (0, 17), (0, 15)], [(1, 27), (0, 22), (0, 36), (1, 27)], [(1, 28), (0, 37), (1, 28), (0, 15)], [(1, 29), (0, 38), (0, 16), (1, 29)], [(0, 16), (1, 30), (0, 16), (0, 38)], [(0, 17), (1, 31), (0, 17), (0, 20)], [(0, 18), (1, 32), (0, 39), (1, 32)], [(0, 17), (0, 20), (1, 33), (0, 20)], [(0, 36), (0, 22), (1, 34), (0, 22)], [(0, 18), (0, 20), (0, 23), (1, 35)], [(1, 36), (0, 40), (1, 36), (0, 27)], [(0, 28), (1, 37), (0, 28), (0, 10)], [(0, 29), (1, 38), (0, 41), (1, 38)], [(0, 6), (0, 32), (1, 39), (0, 32)], [(0, 36), (1, 40), (0, 36), (0, 22)], [(0, 16), (0, 38), (1, 41), (0, 38)]]]
/-- the rings of each, closed -/
def closedT : List (List Nat) := [[],
  [1],
  [2, 1],
  [3, 2, 2, 1, 1],
  [4, 3, 3, 3, 2, 2, 2, 2, 2, 1, 1, 1, 1, 2],
  [5, 4, 4, 4, 4, 3, 3, 3, 3, 3, 3, 3, 3, 3, 2, 2, 2, 2, 2, 2, 2, 2, 2, 2, 2, 2, 1, 1, 1, 1, 3, 1, 1, 1, 3, 1, 2, 2, 2, 2, 1, 1]]
/-- upside down -/
def flipT : List (List Nat) := [[],
  [0],
  [0, 1],
  [0, 1, 2, 4, 3],
  [0, 1, 2, 3, 6, 5, 4, 8, 7, 12, 11, 10, 9, 13],
  [0, 1, 2, 3, 4, 8, 6, 7, 5, 11, 10, 9, 13, 12, 23, 20, 19, 18, 17, 16, 15, 25, 24, 14, 22, 21, 35, 33, 32, 31, 30, 29, 28, 27, 34, 26, 39, 38, 37, 36, 41, 40]]
/-- with a string more on the right -/
def embT : List (List Nat) := [[],
  [0],
  [0, 1],
  [0, 1, 2, 4, 6],
  [0, 1, 2, 3, 5, 6, 8, 9, 11, 14, 16, 19, 23, 30],
  []]

/-! ### Laurent polynomials as functions -/
abbrev LF := Int → Int
def sh (k : Int) (f : LF) : LF := fun p => f (p - k)
def ad (f g : LF) : LF := fun p => f p + g p
def ng (f : LF) : LF := fun p => -(f p)
def zr : LF := fun _ => 0
/-- times the worth of a ring -/
def dm (f : LF) : LF := fun p => -(f (p - 2)) - f (p - -2)
def dms : Nat → LF → LF
  | 0, f => f
  | r + 1, f => dm (dms r f)
def dl : LF := fun p => if p = 0 then 1 else 0
/-- times an integer -/
def sc (v : Int) (f : LF) : LF := fun p => v * f p

theorem sh_sh (a b : Int) (f : LF) : sh a (sh b f) = sh (a + b) f := by
  funext p; show f (p - a - b) = f (p - (a + b)); congr 1; omega
theorem sh_zero (f : LF) : sh 0 f = f := by
  funext p; show f (p - 0) = f p; congr 1; omega
theorem sh_ad (k : Int) (f g : LF) : sh k (ad f g) = ad (sh k f) (sh k g) := rfl
theorem sh_ng (k : Int) (f : LF) : sh k (ng f) = ng (sh k f) := rfl
theorem sh_sc (k v : Int) (f : LF) : sh k (sc v f) = sc v (sh k f) := rfl
theorem dm_eq (f : LF) : dm f = ad (ng (sh 2 f)) (ng (sh (-2) f)) := by
  funext p; show -(f (p - 2)) - f (p - -2) = -(f (p - 2)) + -(f (p - -2)); omega
theorem sh_dm (k : Int) (f : LF) : sh k (dm f) = dm (sh k f) := by
  funext p
  show -(f (p - k - 2)) - f (p - k - -2) = -(f (p - 2 - k)) - f (p - -2 - k)
  rw [show p - k - 2 = p - 2 - k by omega, show p - k - -2 = p - -2 - k by omega]
theorem dm_ad (f g : LF) : dm (ad f g) = ad (dm f) (dm g) := by
  funext p
  show -(f (p - 2) + g (p - 2)) - (f (p - -2) + g (p - -2)) = (-(f (p - 2)) - f (p - -2)) + (-(g (p - 2)) - g (p - -2))
  omega
theorem dm_ng (f : LF) : dm (ng f) = ng (dm f) := by
  funext p
  show -(-(f (p - 2))) - -(f (p - -2)) = -(-(f (p - 2)) - f (p - -2))
  omega
theorem sh_dms (k : Int) : ∀ (r : Nat) (f : LF), sh k (dms r f) = dms r (sh k f)
  | 0, _ => rfl
  | r + 1, f => by show sh k (dm (dms r f)) = dm (dms r (sh k f)); rw [sh_dm, sh_dms k r]
theorem dms_ad : ∀ (r : Nat) (f g : LF), dms r (ad f g) = ad (dms r f) (dms r g)
  | 0, _, _ => rfl
  | r + 1, f, g => by show dm (dms r (ad f g)) = ad (dm (dms r f)) (dm (dms r g)); rw [dms_ad r, dm_ad]
theorem dms_dms : ∀ (a b : Nat) (f : LF), dms a (dms b f) = dms (a + b) f
  | 0, b, f => by rw [Nat.zero_add]; rfl
  | a + 1, b, f => by
    show dm (dms a (dms b f)) = _
    rw [dms_dms a b, show a + 1 + b = (a + b) + 1 by omega]
    rfl
theorem dms_comm (a b : Nat) (f : LF) : dms a (dms b f) = dms b (dms a f) := by rw [dms_dms, dms_dms, Nat.add_comm]
theorem dms_one (f : LF) : dms 1 f = dm f := rfl
theorem dms_dm (r : Nat) (f : LF) : dms r (dm f) = dm (dms r f) := by rw [← dms_one f, dms_comm r 1]; rfl
theorem ad_comm (f g : LF) : ad f g = ad g f := by funext p; show f p + g p = g p + f p; omega
theorem ad_assoc (f g h : LF) : ad (ad f g) h = ad f (ad g h) := by funext p; show f p + g p + h p = f p + (g p + h p); omega
theorem ad_left (f g h : LF) : ad f (ad g h) = ad g (ad f h) := by funext p; show f p + (g p + h p) = g p + (f p + h p); omega
theorem ad_zr (f : LF) : ad f zr = f := by funext p; show f p + 0 = f p; omega
theorem zr_ad (f : LF) : ad zr f = f := by funext p; show 0 + f p = f p; omega
theorem sh_zr (k : Int) : sh k zr = zr := rfl
theorem dm_zr : dm zr = zr := rfl
theorem dms_zr : ∀ r, dms r zr = zr
  | 0 => rfl
  | r + 1 => by show dm (dms r zr) = zr; rw [dms_zr r]; rfl

/-! ### the moves: one crossing at a mat told by its number -/
def nth2 (l : List (List Nat)) (n x : Nat) : Nat := (l.getD n []).getD x 0
def num (n : Nat) : Nat := (matsT.getD n []).length
def mat (n x : Nat) : List Nat := (matsT.getD n []).getD x []
def rgt (n x i : Nat) : Nat × Nat := ((rightT.getD n []).getD x []).getD i (0, 0)
def lft (n x i : Nat) : Nat × Nat := ((leftT.getD n []).getD x []).getD i (0, 0)
def clo (n x : Nat) : Nat := nth2 closedT n x
def flp (n x : Nat) : Nat := nth2 flipT n x
def emb (n x : Nat) : Nat := nth2 embT n x

/-- the index of a crossing's hook, its sign -/
def ix (c : Int) : Nat := c.natAbs - 1
def sg (c : Int) : Int := if c < 0 then -1 else 1
def Ok (n : Nat) (c : Int) : Prop := c ≠ 0 ∧ c.natAbs < n
def Word (n : Nat) (w : List Int) : Prop := ∀ c ∈ w, Ok n c
theorem Ok.lt {n : Nat} {c : Int} (h : Ok n c) : ix c < n - 1 := by
  obtain ⟨h1, h2⟩ := h; unfold ix; omega
theorem sg_or (c : Int) : sg c = 1 ∨ sg c = -1 := by unfold sg; split <;> omega
theorem sg_neg {c : Int} (h : c ≠ 0) : sg (-c) = -sg c := by unfold sg; split <;> split <;> omega
theorem ix_neg (c : Int) : ix (-c) = ix c := by unfold ix; omega
theorem Ok.neg {n : Nat} {c : Int} (h : Ok n c) : Ok n (-c) := by obtain ⟨h1, h2⟩ := h; exact ⟨by omega, by omega⟩

/-- the mats' facts -/
theorem rgt_lt : ∀ n < 6, ∀ x < num n, ∀ i < n - 1, (rgt n x i).2 < num n := by decide +kernel
theorem lft_lt : ∀ n < 6, ∀ x < num n, ∀ i < n - 1, (lft n x i).2 < num n := by decide +kernel
theorem rgt_le : ∀ n < 6, ∀ x < num n, ∀ i < n - 1, (rgt n x i).1 ≤ 1 := by decide +kernel
theorem lft_le : ∀ n < 6, ∀ x < num n, ∀ i < n - 1, (lft n x i).1 ≤ 1 := by decide +kernel
theorem num_pos : ∀ n < 6, 0 < n → 0 < num n := by decide +kernel
theorem clo_pos : ∀ n < 6, ∀ x < num n, 0 < clo n x ∧ clo n x ≤ n := by decide +kernel
/-- a hook twice -/
theorem rgt_two : ∀ n < 6, ∀ x < num n, ∀ i < n - 1, rgt n (rgt n x i).2 i = (1, (rgt n x i).2) := by decide +kernel
/-- a hook, its neighbour, the hook -/
theorem rgt_three : ∀ n < 6, ∀ x < num n, ∀ i < n - 1, ∀ k < n - 1, ¬ (i + 1 = k ∨ k + 1 = i) ∨
    ((rgt n (rgt n x i).2 k).1 = 0 ∧ rgt n (rgt n (rgt n x i).2 k).2 i = (0, (rgt n x i).2)) := by decide +kernel
/-- two apart -/
theorem rgt_far : ∀ n < 6, ∀ x < num n, ∀ i < n - 1, ∀ k < n - 1, ¬ (i + 2 ≤ k ∨ k + 2 ≤ i) ∨
    ((rgt n (rgt n x i).2 k).2 = (rgt n (rgt n x k).2 i).2 ∧ (rgt n x i).1 + (rgt n (rgt n x i).2 k).1 = (rgt n x k).1 + (rgt n (rgt n x k).2 i).1) := by decide +kernel
/-- ahead and behind -/
theorem lft_rgt : ∀ n < 6, ∀ x < num n, ∀ i < n - 1, ∀ k < n - 1,
    (rgt n (lft n x i).2 k).2 = (lft n (rgt n x k).2 i).2 ∧ (lft n x i).1 + (rgt n (lft n x i).2 k).1 = (rgt n x k).1 + (lft n (rgt n x k).2 i).1 := by decide +kernel
theorem lft_one : ∀ n < 6, ∀ i < n - 1, lft n 0 i = rgt n 0 i := by decide +kernel
theorem lft_clo : ∀ n < 6, ∀ x < num n, ∀ i < n - 1, (lft n x i).1 + clo n (lft n x i).2 = (rgt n x i).1 + clo n (rgt n x i).2 := by decide +kernel
theorem flp_rgt : ∀ n < 6, ∀ x < num n, ∀ i < n - 1, lft n (flp n x) i = ((rgt n x i).1, flp n (rgt n x i).2) := by decide +kernel
theorem flp_clo : ∀ n < 6, ∀ x < num n, clo n (flp n x) = clo n x := by decide +kernel
theorem flp_one : ∀ n < 6, flp n 0 = 0 := by decide +kernel
theorem emb_lt : ∀ n < 5, 0 < n → ∀ x < num n, emb n x < num (n + 1) := by decide +kernel
theorem emb_one : ∀ n < 5, emb n 0 = 0 := by decide +kernel
theorem emb_rgt : ∀ n < 5, ∀ x < num n, ∀ i < n - 1, rgt (n + 1) (emb n x) i = ((rgt n x i).1, emb n (rgt n x i).2) := by decide +kernel
theorem emb_clo : ∀ n < 5, ∀ x < num n, clo (n + 1) (emb n x) = clo n x + 1 ∧ (rgt (n + 1) (emb n x) (n - 1)).1 = 0 ∧ clo (n + 1) (rgt (n + 1) (emb n x) (n - 1)).2 = clo n x := by decide +kernel

/-! ### the sum over all choices, from a mat on -/
/-- one crossing behind -/
def R (n : Nat) (c : Int) (φ : Nat → LF) (x : Nat) : LF := ad (sh (sg c) (φ x)) (sh (-sg c) (dms (rgt n x (ix c)).1 (φ (rgt n x (ix c)).2)))
/-- one crossing ahead -/
def Lc (n : Nat) (c : Int) (φ : Nat → LF) (x : Nat) : LF := ad (sh (sg c) (φ x)) (sh (-sg c) (dms (lft n x (ix c)).1 (φ (lft n x (ix c)).2)))
def tr (n x : Nat) : LF := dms (clo n x - 1) dl
def brf (n : Nat) (φ : Nat → LF) : List Int → Nat → LF
  | [] => φ
  | c :: w => R n c (brf n φ w)
def blf (n : Nat) (φ : Nat → LF) : List Int → Nat → LF
  | [] => φ
  | c :: w => Lc n c (blf n φ w)
def br (n : Nat) (w : List Int) (x : Nat) : LF := brf n (tr n) w x

section
variable {n : Nat} {φ ψ : Nat → LF} {c : Int} {w u : List Int}
theorem R_congr (hn : n < 6) (hc : Ok n c) (h : ∀ x < num n, φ x = ψ x) : ∀ x < num n, R n c φ x = R n c ψ x := fun x hx => by
  unfold R
  rw [h x hx, h _ (rgt_lt n hn x hx _ hc.lt)]
theorem Lc_congr (hn : n < 6) (hc : Ok n c) (h : ∀ x < num n, φ x = ψ x) : ∀ x < num n, Lc n c φ x = Lc n c ψ x := fun x hx => by
  unfold Lc
  rw [h x hx, h _ (lft_lt n hn x hx _ hc.lt)]
theorem brf_congr (hn : n < 6) : ∀ (w : List Int), Word n w → (∀ x < num n, φ x = ψ x) → ∀ x < num n, brf n φ w x = brf n ψ w x
  | [], _, h, x, hx => h x hx
  | c :: w, hw, h, x, hx => R_congr hn (hw c List.mem_cons_self) (brf_congr hn w (fun d hd => hw d (List.mem_cons_of_mem _ hd)) h) x hx
theorem brf_app : ∀ (u w : List Int) (φ : Nat → LF), brf n φ (u ++ w) = brf n (brf n φ w) u
  | [], _, _ => rfl
  | c :: u, w, φ => by show R n c (brf n φ (u ++ w)) = R n c (brf n (brf n φ w) u); rw [brf_app u w]
theorem blf_app : ∀ (u w : List Int) (φ : Nat → LF), blf n φ (u ++ w) = blf n (blf n φ w) u
  | [], _, _ => rfl
  | c :: u, w, φ => by show Lc n c (blf n φ (u ++ w)) = Lc n c (blf n (blf n φ w) u); rw [blf_app u w]
theorem Word.tail (h : Word n (c :: w)) : Word n w := fun d hd => h d (List.mem_cons_of_mem _ hd)
theorem Word.head (h : Word n (c :: w)) : Ok n c := h c List.mem_cons_self
theorem Word.app (h : Word n w) (h' : Word n u) : Word n (w ++ u) := fun d hd => (List.mem_append.mp hd).elim (h d) (h' d)
theorem Word.left (h : Word n (w ++ u)) : Word n w := fun d hd => h d (List.mem_append_left _ hd)
theorem Word.right (h : Word n (w ++ u)) : Word n u := fun d hd => h d (List.mem_append_right _ hd)
theorem Word.cons (h : Ok n c) (h' : Word n w) : Word n (c :: w) := fun d hd => (List.mem_cons.mp hd).elim (fun e => e ▸ h) (h' d)
theorem Word.nil : Word n [] := fun _ hd => nomatch hd
theorem Word.rev (h : Word n w) : Word n w.reverse := fun d hd => h d (List.mem_reverse.mp hd)
/-- crossings ahead and behind -/
theorem Lc_R (hn : n < 6) {d : Int} (hc : Ok n c) (hd : Ok n d) : ∀ x < num n, Lc n c (R n d φ) x = R n d (Lc n c φ) x := fun x hx => by
  have h := lft_rgt n hn x hx _ hc.lt _ hd.lt
  unfold Lc R
  simp only [sh_ad, dms_ad, sh_sh, ← sh_dms, dms_dms]
  rw [h.1, h.2]
  rw [Int.add_comm (sg c) (sg d), Int.add_comm (sg c) (-sg d), Int.add_comm (-sg c) (sg d), Int.add_comm (-sg c) (-sg d)]
  rw [ad_assoc, ad_assoc]
  congr 1
  rw [ad_left]
theorem Lc_brf (hn : n < 6) (hc : Ok n c) : ∀ (w : List Int), Word n w → ∀ φ, ∀ x < num n, Lc n c (brf n φ w) x = brf n (Lc n c φ) w x
  | [], _, _, _, _ => rfl
  | d :: w, hw, φ, x, hx => by
    show Lc n c (R n d (brf n φ w)) x = R n d (brf n (Lc n c φ) w) x
    rw [Lc_R hn hc hw.head x hx]
    exact R_congr hn hw.head (Lc_brf hn hc w hw.tail φ) x hx
theorem Lc_zero (hn : n < 6) (hc : Ok n c) : R n c φ 0 = Lc n c φ 0 := by
  unfold R Lc
  rw [lft_one n hn _ hc.lt]
theorem R_tr (hn : n < 6) (hc : Ok n c) : ∀ x < num n, R n c (tr n) x = Lc n c (tr n) x := fun x hx => by
  have h := lft_clo n hn x hx _ hc.lt
  have h1 := (clo_pos n hn _ (rgt_lt n hn x hx _ hc.lt)).1
  have h2 := (clo_pos n hn _ (lft_lt n hn x hx _ hc.lt)).1
  unfold R Lc tr
  rw [dms_dms, dms_dms]
  congr 3
  omega
/-- the word turned -/
theorem br_turn (hn : n < 6) (h0 : 0 < n) (hw : Word n (c :: w)) : br n (c :: w) 0 = br n (w ++ [c]) 0 := by
  have hz := num_pos n hn h0
  show R n c (brf n (tr n) w) 0 = brf n (tr n) (w ++ [c]) 0
  rw [Lc_zero hn hw.head, Lc_brf hn hw.head w hw.tail _ 0 hz, brf_app]
  exact brf_congr hn w hw.tail (fun x hx => (R_tr hn hw.head x hx).symm) 0 hz
theorem brf_rev (hn : n < 6) (h0 : 0 < n) : ∀ (w : List Int), Word n w → ∀ φ, brf n φ w 0 = blf n φ w.reverse 0
  | [], _, _ => rfl
  | c :: w, hw, φ => by
    have hz := num_pos n hn h0
    show R n c (brf n φ w) 0 = _
    rw [Lc_zero hn hw.head, Lc_brf hn hw.head w hw.tail _ 0 hz, brf_rev hn h0 w hw.tail, List.reverse_cons, blf_app]
    rfl
theorem blf_flp (hn : n < 6) : ∀ (w : List Int), Word n w → ∀ x < num n, blf n (tr n) w (flp n x) = brf n (tr n) w x
  | [], _, x, hx => by show tr n (flp n x) = tr n x; unfold tr; rw [flp_clo n hn x hx]
  | c :: w, hw, x, hx => by
    show Lc n c (blf n (tr n) w) (flp n x) = R n c (brf n (tr n) w) x
    unfold Lc R
    rw [flp_rgt n hn x hx _ hw.head.lt, blf_flp hn w hw.tail x hx, blf_flp hn w hw.tail _ (rgt_lt n hn x hx _ hw.head.lt)]
/-- the word from its end -/
theorem br_rev (hn : n < 6) (h0 : 0 < n) (hw : Word n w) : br n w.reverse 0 = br n w 0 := by
  have hz := num_pos n hn h0
  show brf n (tr n) w.reverse 0 = brf n (tr n) w 0
  rw [brf_rev hn h0 _ hw.rev, List.reverse_reverse]
  have := blf_flp hn w hw 0 hz
  rw [flp_one n hn] at this
  exact this
/-! the powers' signs changed -/
def mir (f : LF) : LF := fun p => f (-p)
theorem mir_sh (k : Int) (f : LF) : mir (sh k f) = sh (-k) (mir f) := by
  funext p; show f (-p - k) = f (-(p - -k)); congr 1; omega
theorem mir_ad (f g : LF) : mir (ad f g) = ad (mir f) (mir g) := rfl
theorem mir_dm (f : LF) : mir (dm f) = dm (mir f) := by
  funext p
  show -(f (-p - 2)) - f (-p - -2) = -(f (-(p - 2))) - f (-(p - -2))
  rw [show -(p - 2) = -p - -2 by omega, show -(p - -2) = -p - 2 by omega]
  omega
theorem mir_dms : ∀ (r : Nat) (f : LF), mir (dms r f) = dms r (mir f)
  | 0, _ => rfl
  | r + 1, f => by show mir (dm (dms r f)) = dm (dms r (mir f)); rw [mir_dm, mir_dms r]
theorem mir_dl : mir dl = dl := by
  funext p; unfold mir dl; by_cases h : p = 0
  · rw [if_pos h, if_pos (by omega)]
  · rw [if_neg h, if_neg (by omega)]
theorem br_neg : ∀ (w : List Int), Word n w → ∀ x, br n (w.map fun c => -c) x = mir (br n w x)
  | [], _, x => by show tr n x = mir (tr n x); unfold tr; rw [mir_dms, mir_dl]
  | c :: w, hw, x => by
    show R n (-c) (br n (w.map fun c => -c)) x = mir (R n c (br n w) x)
    unfold R
    rw [mir_ad, mir_sh, mir_sh, mir_dms, sg_neg hw.head.1, ix_neg, br_neg w hw.tail, br_neg w hw.tail]
/-! the moves -/
theorem ng_ad_self (f : LF) : ad f (ng f) = zr := by funext p; show f p + -(f p) = 0; omega
theorem R_inv (hn : n < 6) (hc : Ok n c) : ∀ x < num n, R n c (R n (-c) φ) x = φ x := fun x hx => by
  have h := rgt_two n hn x hx _ hc.lt
  unfold R
  rw [ix_neg, sg_neg hc.1, h]
  simp only [sh_ad, dms_ad, sh_sh, ← sh_dms, dms_dms, dms_one, dms_dm, sh_dm]
  generalize dms (rgt n x (ix c)).1 (φ (rgt n x (ix c)).2) = G
  rw [show sg c + -sg c = 0 by omega, sh_zero, show sg c + - -sg c = sg c + sg c by omega, show -sg c + -sg c = -(sg c + sg c) by omega, show -sg c + - -sg c = 0 by omega, sh_zero, dm_eq]
  rcases sg_or c with e | e <;> rw [e]
  · funext p
    show φ x p + G (p - 2) + (G (p - -2) + (-(G (p - 2)) + -(G (p - -2)))) = φ x p
    omega
  · funext p
    show φ x p + G (p - -2) + (G (p - 2) + (-(G (p - 2)) + -(G (p - -2)))) = φ x p
    omega
/-- two crossings apart -/
theorem R_far (hn : n < 6) {d : Int} (hc : Ok n c) (hd : Ok n d) (h2 : ix c + 2 ≤ ix d ∨ ix d + 2 ≤ ix c) : ∀ x < num n, R n c (R n d φ) x = R n d (R n c φ) x := fun x hx => by
  obtain ⟨h3, h4⟩ := (rgt_far n hn x hx _ hc.lt _ hd.lt).resolve_left fun z => z h2
  unfold R
  simp only [sh_ad, dms_ad, sh_sh, ← sh_dms, dms_dms]
  rw [h3, h4]
  rw [Int.add_comm (sg c) (sg d), Int.add_comm (sg c) (-sg d), Int.add_comm (-sg c) (sg d), Int.add_comm (-sg c) (-sg d)]
  rw [ad_assoc, ad_assoc]
  congr 1
  rw [ad_left]
/-- three crossings of neighbours -/
theorem R_three (hn : n < 6) {d : Int} (hc : Ok n c) (hd : Ok n d) (h2 : ix c + 1 = ix d ∨ ix d + 1 = ix c) (hs : sg c = sg d) : ∀ x < num n, R n c (R n d (R n c φ)) x = R n d (R n c (R n d φ)) x := fun x hx => by
  obtain ⟨a1, a2⟩ := (rgt_three n hn x hx _ hc.lt _ hd.lt).resolve_left fun z => z h2
  obtain ⟨b1, b2⟩ := (rgt_three n hn x hx _ hd.lt _ hc.lt).resolve_left fun z => z h2.symm
  have c1 := rgt_two n hn x hx _ hc.lt
  have d1 := rgt_two n hn x hx _ hd.lt
  unfold R
  rw [a2, b2, c1, d1, a1, b1]
  simp only [sh_ad, dms_ad, sh_sh, ← sh_dms, dms_dms, dms_one, dms_dm, sh_dm, Nat.add_zero, Nat.zero_add]
  try simp only [show ∀ (f : LF), dms 0 f = f from fun _ => rfl]
  rw [← hs]
  generalize dms (rgt n x (ix c)).1 (φ (rgt n x (ix c)).2) = G
  generalize dms (rgt n x (ix d)).1 (φ (rgt n x (ix d)).2) = K
  generalize dms (rgt n x (ix c)).1 (φ (rgt n (rgt n x (ix c)).2 (ix d)).2) = M
  generalize dms (rgt n x (ix d)).1 (φ (rgt n (rgt n x (ix d)).2 (ix c)).2) = N
  generalize φ x = F
  rcases sg_or c with e | e <;> rw [e] <;> funext p <;> simp only [ad, sh, dm]
  · have e1 : p - 2 - (-1 + (1 + -1)) = p - 1 := by omega
    have e2 : p - -2 - (-1 + (1 + -1)) = p - -3 := by omega
    rw [e1, e2]
    show F (p - 3) + G (p - 1) + (K (p - 1) + N (p - -1)) + (G (p - 1) + (-(G (p - 1)) - G (p - -3)) + (M (p - -1) + G (p - -3))) =
      F (p - 3) + K (p - 1) + (G (p - 1) + M (p - -1)) + (K (p - 1) + (-(K (p - 1)) - K (p - -3)) + (N (p - -1) + K (p - -3)))
    omega
  · have e1 : p - 2 - (- -1 + (-1 + - -1)) = p - 3 := by omega
    have e2 : p - -2 - (- -1 + (-1 + - -1)) = p - -1 := by omega
    rw [e1, e2]
    show F (p - -3) + G (p - -1) + (K (p - -1) + N (p - 1)) + (G (p - -1) + (-(G (p - 3)) - G (p - -1)) + (M (p - 1) + G (p - 3))) =
      F (p - -3) + K (p - -1) + (G (p - -1) + M (p - 1)) + (K (p - -1) + (-(K (p - 3)) - K (p - -1)) + (N (p - 1) + K (p - 3)))
    omega
/-- a crossing of a new string -/
def emT (n : Nat) (φ : Nat → LF) : Nat → LF := fun x => φ (emb n x)
theorem emT_R (hn : n < 5) (hc : Ok n c) : ∀ x < num n, R (n + 1) c φ (emb n x) = R n c (emT n φ) x := fun x hx => by
  unfold R emT
  rw [emb_rgt n hn x hx _ hc.lt]
theorem emT_brf (hn : n < 5) : ∀ (w : List Int), Word n w → ∀ φ, ∀ x < num n, brf (n + 1) φ w (emb n x) = brf n (emT n φ) w x
  | [], _, _, _, _ => rfl
  | c :: w, hw, φ, x, hx => by
    show R (n + 1) c (brf (n + 1) φ w) (emb n x) = R n c (brf n (emT n φ) w) x
    rw [emT_R hn hw.head x hx]
    exact R_congr (by omega) hw.head (fun y hy => emT_brf hn w hw.tail φ y hy) x hx
theorem tr_long (hn : n < 5) (h0 : 0 < n) {e : Int} (he : e = n ∨ e = -n) : ∀ x < num n, emT n (R (n + 1) e (tr (n + 1))) x = ng (sh (3 * sg e) (tr n x)) := fun x hx => by
  obtain ⟨h1, h2, h3⟩ := emb_clo n hn x hx
  have h4 := (clo_pos n (by omega) x hx).1
  have ei : ix e = n - 1 := by unfold ix; omega
  unfold emT R tr
  rw [ei, h1, h2, h3, show clo n x + 1 - 1 = (clo n x - 1) + 1 by omega]
  generalize clo n x - 1 = k
  show ad (sh (sg e) (dm (dms k dl))) (sh (-sg e) (dms k dl)) = _
  generalize dms k dl = G
  rcases sg_or e with q | q <;> rw [q] <;> funext p <;> simp only [ad, sh, dm, ng]
  · rw [show p - 1 - 2 = p - 3 * 1 by omega, show p - 1 - -2 = p - -1 by omega]
    omega
  · rw [show p - -1 - 2 = p - - -1 by omega, show p - -1 - -2 = p - 3 * -1 by omega]
    omega
theorem brf_ng_sh (k : Int) : ∀ (w : List Int) (φ : Nat → LF) (x : Nat), brf n (fun x => ng (sh k (φ x))) w x = ng (sh k (brf n φ w x))
  | [], _, _ => rfl
  | c :: w, φ, x => by
    show R n c (brf n (fun x => ng (sh k (φ x))) w) x = ng (sh k (R n c (brf n φ w) x))
    unfold R
    rw [brf_ng_sh k w φ x, brf_ng_sh k w φ]
    generalize brf n φ w x = F
    generalize brf n φ w (rgt n x (ix c)).2 = G
    generalize (rgt n x (ix c)).1 = r
    have e1 : ∀ (f : LF), dms r (ng f) = ng (dms r f) := fun f => by
      induction r with
      | zero => rfl
      | succ r ih => show dm (dms r (ng f)) = ng (dm (dms r f)); rw [ih, dm_ng]
    rw [e1, ← sh_dms]
    simp only [sh_ng, sh_ad, sh_sh]
    rw [Int.add_comm k (sg c), Int.add_comm k (-sg c)]
    funext p
    simp only [ad, ng]
    omega
theorem br_long (hn : n < 5) (h0 : 0 < n) (hw : Word n w) {e : Int} (he : e = n ∨ e = -n) : br (n + 1) (w ++ [e]) 0 = ng (sh (3 * sg e) (br n w 0)) := by
  have hz := num_pos n (by omega) h0
  show brf (n + 1) (tr (n + 1)) (w ++ [e]) 0 = _
  rw [brf_app]
  show brf (n + 1) (R (n + 1) e (tr (n + 1))) w 0 = _
  have h1 := emT_brf hn w hw (R (n + 1) e (tr (n + 1))) 0 hz
  rw [emb_one n hn] at h1
  rw [h1, brf_congr (by omega) w hw (tr_long hn h0 he) 0 hz, brf_ng_sh]
  rfl
end

/-! ### the polynomial of a closed braid -/
def wr (w : List Int) : Int := (w.map sg).sum
def sgp (t : Int) : Int := 1 - 2 * (t % 2)
def poly (n : Nat) (w : List Int) : LF := sc (sgp (wr w)) (sh (-3 * wr w) (br n w 0))
section
variable {n : Nat} {c : Int} {w u v : List Int}
theorem wr_app (u v : List Int) : wr (u ++ v) = wr u + wr v := by unfold wr; rw [List.map_append, List.sum_append]
theorem wr_cons (c : Int) (v : List Int) : wr (c :: v) = sg c + wr v := by unfold wr; rw [List.map_cons, List.sum_cons]
theorem poly_turn (hn : n < 6) (h0 : 0 < n) (hw : Word n (c :: w)) : poly n (w ++ [c]) = poly n (c :: w) := by
  have e : wr (w ++ [c]) = wr (c :: w) := by rw [wr_app, wr_cons, wr_cons]; show wr w + (sg c + 0) = _; omega
  unfold poly
  rw [e, br_turn hn h0 hw]
theorem wr_neg : ∀ (w : List Int), Word n w → wr (w.map fun c => -c) = -wr w
  | [], _ => rfl
  | c :: w, hw => by
    rw [List.map_cons, wr_cons, wr_cons, sg_neg hw.head.1, wr_neg w hw.tail]; omega
theorem wr_rev (w : List Int) : wr w.reverse = wr w := by unfold wr; rw [List.map_reverse, List.sum_reverse]
theorem sgp_neg (t : Int) : sgp (-t) = sgp t := by unfold sgp; omega
theorem Word.neg (hw : Word n w) : Word n (w.map fun c => -c) := fun d hd => by
  obtain ⟨c, hc, rfl⟩ := List.mem_map.mp hd
  exact (hw c hc).neg
theorem poly_undone (hn : n < 6) (h0 : 0 < n) (hw : Word n w) : poly n (w.reverse.map fun c => -c) = mir (poly n w) := by
  unfold poly
  rw [wr_neg _ hw.rev, wr_rev, sgp_neg, br_neg _ hw.rev, br_rev hn h0 hw]
  show sc (sgp (wr w)) (sh (-3 * -wr w) (mir (br n w 0))) = sc (sgp (wr w)) (mir (sh (-3 * wr w) (br n w 0)))
  rw [mir_sh]
  congr 2
  omega
theorem poly_long (hn : n < 5) (h0 : 0 < n) (hw : Word n w) {e : Int} (he : e = n ∨ e = -n) : poly (n + 1) (w ++ [e]) = poly n w := by
  unfold poly
  rw [br_long hn h0 hw he, wr_app]
  have e1 : wr [e] = sg e := by show sg e + 0 = sg e; omega
  rw [e1, sh_ng, sh_sh]
  have e2 : -3 * (wr w + sg e) + 3 * sg e = -3 * wr w := by omega
  rw [e2]
  have e3 : sgp (wr w + sg e) = -sgp (wr w) := by unfold sgp; rcases sg_or e with q | q <;> rw [q] <;> omega
  rw [e3]
  funext p
  show -sgp (wr w) * -(sh (-3 * wr w) (br n w 0) p) = sgp (wr w) * sh (-3 * wr w) (br n w 0) p
  rw [Int.neg_mul_neg]
/-- a part of the word exchanged -/
theorem poly_part (hn : n < 6) (h0 : 0 < n) {a b : List Int} (ha : Word n a) (e : wr u = wr v) (h : ∀ φ, ∀ x < num n, brf n φ u x = brf n φ v x) : poly n (a ++ u ++ b) = poly n (a ++ v ++ b) := by
  have hz := num_pos n hn h0
  have e1 : wr (a ++ u ++ b) = wr (a ++ v ++ b) := by simp only [wr_app, e]
  unfold poly
  rw [e1]
  congr 2
  show brf n (tr n) (a ++ u ++ b) 0 = brf n (tr n) (a ++ v ++ b) 0
  rw [List.append_assoc, List.append_assoc, brf_app a, brf_app a]
  refine brf_congr hn a ha (fun x hx => ?_) 0 hz
  rw [brf_app u, brf_app v]
  exact h _ x hx
theorem poly_inv (hn : n < 6) (h0 : 0 < n) {a b : List Int} (ha : Word n a) (hc : Ok n c) : poly n (a ++ [c, -c] ++ b) = poly n (a ++ b) := by
  have h := poly_part (u := [c, -c]) (v := []) (b := b) hn h0 ha (by show sg c + (sg (-c) + 0) = 0; rw [sg_neg hc.1]; omega) (fun φ x hx => R_inv hn hc x hx)
  rw [h, List.append_nil]
theorem poly_far (hn : n < 6) (h0 : 0 < n) {a b : List Int} {d : Int} (ha : Word n a) (hc : Ok n c) (hd : Ok n d) (h2 : ix c + 2 ≤ ix d ∨ ix d + 2 ≤ ix c) : poly n (a ++ [d, c] ++ b) = poly n (a ++ [c, d] ++ b) :=
  poly_part hn h0 ha (by show sg d + (sg c + 0) = sg c + (sg d + 0); omega) (fun φ x hx => (R_far hn hc hd h2 x hx).symm)
theorem poly_three (hn : n < 6) (h0 : 0 < n) {a b : List Int} {d : Int} (ha : Word n a) (hc : Ok n c) (hd : Ok n d) (h2 : ix c + 1 = ix d ∨ ix d + 1 = ix c) (hs : sg c = sg d) : poly n (a ++ [d, c, d] ++ b) = poly n (a ++ [c, d, c] ++ b) :=
  poly_part hn h0 ha (by show sg d + (sg c + (sg d + 0)) = sg c + (sg d + (sg c + 0)); omega) (fun φ x hx => (R_three hn hc hd h2 hs x hx).symm)
end
end KB
namespace KB
/-! ### tables of coefficients as lists of pairs -/
section
variable {κ : Type} [DecidableEq κ]
def getK (c : List (κ × Int)) (k : κ) : Option Int := (c.find? fun e => decide (e.1 = k)).map (·.2)
def putL (c : List (κ × Int)) (k : κ) (v : Int) : List (κ × Int) :=
  if (c.any fun e => decide (e.1 = k)) = true then c.map (fun e => if e.1 = k then (e.1, v) else e) else c ++ [(k, v)]
def bump (c : List (κ × Int)) (k : κ) (v : Int) : List (κ × Int) := putL c k ((getK c k).getD 0 + v)
def act (g : κ → LF) : List (κ × Int) → LF
  | [] => zr
  | e :: c => ad (sc e.2 (g e.1)) (act g c)
theorem getK_nil (k : κ) : getK ([] : List (κ × Int)) k = none := rfl
theorem getK_pos {e : κ × Int} {c : List (κ × Int)} {k : κ} (h : e.1 = k) : getK (e :: c) k = some e.2 := by simp [getK, List.find?_cons, h]
theorem getK_neg {e : κ × Int} {c : List (κ × Int)} {k : κ} (h : ¬ e.1 = k) : getK (e :: c) k = getK c k := by simp [getK, List.find?_cons, h]
theorem getK_none : ∀ {c : List (κ × Int)} {k : κ}, k ∉ c.map (·.1) → getK c k = none
  | [], _, _ => rfl
  | e :: c, k, h => by
    rw [List.map_cons, List.mem_cons] at h
    rw [getK_neg fun z => h (.inl z.symm)]
    exact getK_none fun z => h (.inr z)
theorem getK_mem : ∀ {c : List (κ × Int)} {k : κ}, k ∈ c.map (·.1) → ∃ v, getK c k = some v
  | [], _, h => absurd h (by simp)
  | e :: c, k, h => by
    by_cases q : e.1 = k
    · exact ⟨_, getK_pos q⟩
    · rw [List.map_cons, List.mem_cons] at h
      rw [getK_neg q]
      exact getK_mem (h.resolve_left fun z => q z.symm)
theorem any_iff : ∀ (c : List (κ × Int)) (k : κ), (c.any fun e => decide (e.1 = k)) = true ↔ k ∈ c.map (·.1)
  | [], _ => by simp
  | e :: c, k => by
    rw [List.any_cons, List.map_cons, List.mem_cons, Bool.or_eq_true, any_iff c k, decide_eq_true_eq]
    exact ⟨fun h => h.imp Eq.symm id, fun h => h.imp Eq.symm id⟩
theorem map_same : ∀ (c : List (κ × Int)) (k : κ) (v : Int), k ∉ c.map (·.1) → c.map (fun e => if e.1 = k then (e.1, v) else e) = c
  | [], _, _, _ => rfl
  | e :: c, k, v, h => by
    rw [List.map_cons, List.mem_cons] at h
    rw [List.map_cons, if_neg fun z => h (.inl z.symm), map_same c k v fun z => h (.inr z)]
theorem sc_ad (a b : Int) (f : LF) : sc (a + b) f = ad (sc a f) (sc b f) := by funext p; show (a + b) * f p = a * f p + b * f p; rw [Int.add_mul]
theorem sc_zero (f : LF) : sc 0 f = zr := by funext p; show 0 * f p = 0; rw [Int.zero_mul]
theorem sc_one (f : LF) : sc 1 f = f := by funext p; show 1 * f p = f p; rw [Int.one_mul]
theorem sc_sc (a b : Int) (f : LF) : sc a (sc b f) = sc (a * b) f := by funext p; show a * (b * f p) = a * b * f p; rw [Int.mul_assoc]
theorem sc_add (a : Int) (f g : LF) : sc a (ad f g) = ad (sc a f) (sc a g) := by funext p; show a * (f p + g p) = a * f p + a * g p; rw [Int.mul_add]
theorem sc_zr (a : Int) : sc a zr = zr := by funext p; show a * 0 = 0; rw [Int.mul_zero]
theorem act_app (g : κ → LF) : ∀ (c d : List (κ × Int)), act g (c ++ d) = ad (act g c) (act g d)
  | [], d => (zr_ad _).symm
  | e :: c, d => by show ad _ (act g (c ++ d)) = ad (ad _ (act g c)) (act g d); rw [act_app g c d, ad_assoc]
theorem act_repl (g : κ → LF) (v : Int) : ∀ (c : List (κ × Int)) (k : κ), (c.map (·.1)).Nodup → k ∈ c.map (·.1) →
    act g (c.map fun e => if e.1 = k then (e.1, (getK c k).getD 0 + v) else e) = ad (act g c) (sc v (g k))
  | [], k, _, h => absurd h (by simp)
  | e :: c, k, nd, h => by
    rw [List.map_cons] at nd
    obtain ⟨n1, n2⟩ := List.nodup_cons.mp nd
    by_cases q : e.1 = k
    · have hk : k ∉ c.map (·.1) := q ▸ n1
      rw [getK_pos q, List.map_cons, if_pos q, map_same c k _ hk]
      show ad (sc (e.2 + v) (g e.1)) (act g c) = ad (ad (sc e.2 (g e.1)) (act g c)) (sc v (g k))
      rw [sc_ad, q, ad_assoc, ad_assoc, ad_comm (sc v (g k))]
    · rw [List.map_cons, List.mem_cons] at h
      have hk : k ∈ c.map (·.1) := h.resolve_left fun z => q z.symm
      rw [getK_neg q, List.map_cons, if_neg q]
      show ad (sc e.2 (g e.1)) (act g _) = ad (ad (sc e.2 (g e.1)) (act g c)) (sc v (g k))
      rw [act_repl g v c k n2 hk, ad_assoc]
theorem act_bump (g : κ → LF) {c : List (κ × Int)} (nd : (c.map (·.1)).Nodup) (k : κ) (v : Int) : act g (bump c k v) = ad (act g c) (sc v (g k)) := by
  unfold bump putL
  by_cases h : k ∈ c.map (·.1)
  · rw [if_pos ((any_iff c k).mpr h)]
    exact act_repl g v c k nd h
  · rw [if_neg fun z => h ((any_iff c k).mp z), getK_none h, act_app]
    show ad (act g c) (ad (sc (0 + v) (g k)) zr) = _
    rw [ad_zr, Int.zero_add]
theorem keys_put (c : List (κ × Int)) (k : κ) (v : Int) : (putL c k v).map (·.1) = if k ∈ c.map (·.1) then c.map (·.1) else c.map (·.1) ++ [k] := by
  unfold putL
  by_cases h : k ∈ c.map (·.1)
  · rw [if_pos ((any_iff c k).mpr h), if_pos h, List.map_map]
    refine List.map_congr_left fun e _ => ?_
    show (if e.1 = k then (e.1, v) else e).1 = e.1
    split <;> rfl
  · rw [if_neg fun z => h ((any_iff c k).mp z), if_neg h, List.map_append]
    rfl
theorem nd_put {c : List (κ × Int)} (nd : (c.map (·.1)).Nodup) (k : κ) (v : Int) : ((putL c k v).map (·.1)).Nodup := by
  rw [keys_put]
  split
  · exact nd
  · next h =>
    refine List.nodup_append.mpr ⟨nd, List.nodup_cons.mpr ⟨by simp, List.nodup_nil⟩, fun a ha b hb e => ?_⟩
    have : b = k := by simpa using hb
    exact h (this ▸ e ▸ ha)
theorem nd_bump {c : List (κ × Int)} (nd : (c.map (·.1)).Nodup) (k : κ) (v : Int) : ((bump c k v).map (·.1)).Nodup := nd_put nd k _
theorem len_put (c : List (κ × Int)) (k : κ) (v : Int) : (putL c k v).length ≤ c.length + 1 := by
  unfold putL
  split
  · rw [List.length_map]; omega
  · rw [List.length_append]; show c.length + 1 ≤ _; omega
theorem len_bump (c : List (κ × Int)) (k : κ) (v : Int) : (bump c k v).length ≤ c.length + 1 := len_put c k _
/-! linear -/
theorem act_lin (F : LF → LF) (h0 : F zr = zr) (ha : ∀ f g, F (ad f g) = ad (F f) (F g)) (hs : ∀ v f, F (sc v f) = sc v (F f)) (g : κ → LF) : ∀ c : List (κ × Int), F (act g c) = act (fun k => F (g k)) c
  | [] => h0
  | e :: c => by show F (ad _ (act g c)) = ad _ (act _ c); rw [ha, hs, act_lin F h0 ha hs g c]
end
theorem dm_sc (v : Int) (f : LF) : dm (sc v f) = sc v (dm f) := by
  funext p
  show -(v * f (p - 2)) - v * f (p - -2) = v * (-(f (p - 2)) - f (p - -2))
  rw [Int.mul_sub, Int.mul_neg]
theorem dms_sc (v : Int) : ∀ (r : Nat) (f : LF), dms r (sc v f) = sc v (dms r f)
  | 0, _ => rfl
  | r + 1, f => by show dm (dms r (sc v f)) = sc v (dm (dms r f)); rw [dms_sc v r, dm_sc]

/-! ### a dict of coefficients by powers -/
abbrev LP := List (Int × Int)
/-- the dict, times f -/
def ac (c : LP) (f : LF) : LF := act (fun k => sh k f) c
theorem ac_ad (c : LP) (f g : LF) : ac c (ad f g) = ad (ac c f) (ac c g) := by
  unfold ac
  induction c with
  | nil => exact (zr_ad _).symm
  | cons e c ih =>
    show ad (sc e.2 (sh e.1 (ad f g))) (act _ c) = ad (ad _ (act _ c)) (ad _ (act _ c))
    rw [ih, sh_ad, sc_add, ad_assoc, ad_assoc, ad_left (sc e.2 (sh e.1 g))]
theorem ac_sh (c : LP) (k : Int) (f : LF) : ac c (sh k f) = sh k (ac c f) := by
  unfold ac
  rw [act_lin (sh k) rfl (sh_ad k) (fun v f => sh_sc k v f)]
  congr 1
  funext j
  rw [sh_sh, sh_sh, Int.add_comm]
theorem ac_dm (c : LP) (f : LF) : ac c (dm f) = dm (ac c f) := by
  unfold ac
  rw [act_lin dm dm_zr dm_ad dm_sc]
  congr 1
  funext j
  rw [sh_dm]
theorem ac_dms (c : LP) : ∀ (r : Nat) (f : LF), ac c (dms r f) = dms r (ac c f)
  | 0, _ => rfl
  | r + 1, f => by show ac c (dm (dms r f)) = dm (dms r (ac c f)); rw [ac_dm, ac_dms c r]
theorem ac_bump {c : LP} (nd : (c.map (·.1)).Nodup) (k v : Int) (f : LF) : ac (bump c k v) f = ad (ac c f) (sc v (sh k f)) := act_bump _ nd k v
theorem ac_dl : ∀ (c : LP), (c.map (·.1)).Nodup → ∀ k, ac c dl k = (getK c k).getD 0
  | [], _, _ => rfl
  | e :: c, nd, k => by
    rw [List.map_cons] at nd
    obtain ⟨n1, n2⟩ := List.nodup_cons.mp nd
    show e.2 * (if k - e.1 = 0 then 1 else 0) + ac c dl k = _
    rw [ac_dl c n2 k]
    by_cases q : e.1 = k
    · rw [getK_pos q, getK_none (q ▸ n1), if_pos (by omega)]
      show e.2 * 1 + 0 = e.2
      omega
    · rw [getK_neg q, if_neg (by omega), Int.mul_zero, Int.zero_add]
/-- add_into -/
def addI (c d : LP) (s v : Int) : LP := d.foldl (fun c e => bump c (e.1 + s) (v * e.2)) c
theorem addI_cons (c : LP) (e : Int × Int) (d : LP) (s v : Int) : addI c (e :: d) s v = addI (bump c (e.1 + s) (v * e.2)) d s v := rfl
theorem addI_snoc (c : LP) (e : Int × Int) (d : LP) (s v : Int) : addI c (d ++ [e]) s v = bump (addI c d s v) (e.1 + s) (v * e.2) := by
  unfold addI
  rw [List.foldl_append]
  rfl
theorem nd_addI (s v : Int) : ∀ (d c : LP), (c.map (·.1)).Nodup → ((addI c d s v).map (·.1)).Nodup
  | [], _, nd => nd
  | e :: d, c, nd => nd_addI s v d _ (nd_bump nd _ _)
theorem len_addI (s v : Int) : ∀ (d c : LP), (addI c d s v).length ≤ c.length + d.length
  | [], _ => Nat.le_refl _
  | e :: d, c => by
    have h1 := len_addI s v d (bump c (e.1 + s) (v * e.2))
    have h2 := len_bump c (e.1 + s) (v * e.2)
    rw [addI_cons, List.length_cons]
    omega
theorem ac_addI (s v : Int) (f : LF) : ∀ (d c : LP), (c.map (·.1)).Nodup → ac (addI c d s v) f = ad (ac c f) (sc v (sh s (ac d f)))
  | [], c, _ => by show ac c f = ad (ac c f) (sc v zr); rw [sc_zr, ad_zr]
  | e :: d, c, nd => by
    rw [addI_cons, ac_addI s v f d _ (nd_bump nd _ _), ac_bump nd]
    show _ = ad (ac c f) (sc v (sh s (ad (sc e.2 (sh e.1 f)) (ac d f))))
    rw [sh_ad, sc_add, ad_assoc, sh_sc, sh_sh, sc_sc, Int.add_comm s]
/-- with_rings -/
def oneR (c : LP) : LP := addI (addI [] c 2 (-1)) c (-2) (-1)
def wRings (c : LP) : Nat → LP
  | 0 => c
  | r + 1 => oneR (wRings c r)
theorem nd_oneR (c : LP) : ((oneR c).map (·.1)).Nodup := nd_addI _ _ _ _ (nd_addI _ _ _ _ List.nodup_nil)
theorem ac_oneR (c : LP) (f : LF) : ac (oneR c) f = dm (ac c f) := by
  unfold oneR
  rw [ac_addI (-2) (-1) f c _ (nd_addI 2 (-1) c [] List.nodup_nil), ac_addI 2 (-1) f c [] List.nodup_nil, dm_eq]
  show ad (ad zr _) _ = _
  rw [zr_ad]
  funext p
  show -1 * sh 2 (ac c f) p + -1 * sh (-2) (ac c f) p = -(sh 2 (ac c f) p) + -(sh (-2) (ac c f) p)
  omega
theorem nd_wRings {c : LP} (nd : (c.map (·.1)).Nodup) : ∀ r, ((wRings c r).map (·.1)).Nodup
  | 0 => nd
  | r + 1 => nd_oneR _
theorem ac_wRings (c : LP) (f : LF) : ∀ r, ac (wRings c r) f = dms r (ac c f)
  | 0 => rfl
  | r + 1 => by show ac (oneR _) f = dm _; rw [ac_oneR, ac_wRings c f r]
theorem len_wRings (c : LP) : ∀ r, (wRings c r).length ≤ 2 ^ r * c.length
  | 0 => by show c.length ≤ 1 * c.length; omega
  | r + 1 => by
    have ih := len_wRings c r
    have h1 := len_addI (-2) (-1) (wRings c r) (addI [] (wRings c r) 2 (-1))
    have h2 := len_addI 2 (-1) (wRings c r) []
    have e : 2 ^ (r + 1) * c.length = 2 * (2 ^ r * c.length) := by rw [Nat.pow_succ, Nat.mul_comm (2 ^ r) 2, Nat.mul_assoc]
    show (addI (addI [] (wRings c r) 2 (-1)) (wRings c r) (-2) (-1)).length ≤ _
    simp only [List.length_nil] at h2
    omega

/-! ### the polynomial that is told: powers ascending, no coefficient 0 -/
structure Canon (L : LP) (f : LF) : Prop where
  up : L.Pairwise fun a b => a.1 < b.1
  mem : ∀ p v, (p, v) ∈ L ↔ (v ≠ 0 ∧ f p = v)
theorem Canon.uniq {f : LF} : ∀ {L M : LP}, L.Pairwise (fun a b => a.1 < b.1) → M.Pairwise (fun a b => a.1 < b.1) → (∀ e, e ∈ L ↔ e ∈ M) → L = M
  | [], [], _, _, _ => rfl
  | [], e :: M, _, _, h => absurd ((h e).mpr List.mem_cons_self) (by simp)
  | e :: L, [], _, _, h => absurd ((h e).mp List.mem_cons_self) (by simp)
  | a :: L, b :: M, hL, hM, h => by
    obtain ⟨a1, a2⟩ := List.pairwise_cons.mp hL
    obtain ⟨b1, b2⟩ := List.pairwise_cons.mp hM
    have e : a = b := by
      rcases List.mem_cons.mp ((h a).mp List.mem_cons_self) with q | q
      · exact q
      · rcases List.mem_cons.mp ((h b).mpr List.mem_cons_self) with r | r
        · exact r.symm
        · have := a1 b r
          have := b1 a q
          omega
    subst e
    have tl : ∀ x, x ∈ L ↔ x ∈ M := fun x => by
      constructor
      · intro hx
        rcases List.mem_cons.mp ((h x).mp (List.mem_cons_of_mem _ hx)) with q | q
        · have := a1 x hx; rw [q] at this; omega
        · exact q
      · intro hx
        rcases List.mem_cons.mp ((h x).mpr (List.mem_cons_of_mem _ hx)) with q | q
        · have := b1 x hx; rw [q] at this; omega
        · exact q
    rw [Canon.uniq (f := f) a2 b2 tl]
theorem Canon.eq {L M : LP} {f : LF} (h : Canon L f) (h' : Canon M f) : L = M :=
  Canon.uniq (f := f) h.up h'.up fun e => by obtain ⟨p, v⟩ := e; rw [h.mem, h'.mem]
theorem Canon.mir {L : LP} {f : LF} (h : Canon L f) : Canon (L.reverse.map fun e => (0 - e.1, e.2)) (KB.mir f) := by
  refine ⟨?_, fun p v => ?_⟩
  · rw [List.pairwise_map, List.pairwise_reverse]
    exact h.up.imp fun {a b} q => by show 0 - b.1 < 0 - a.1; omega
  · rw [List.mem_map]
    constructor
    · rintro ⟨⟨q, u⟩, m, e⟩
      have e1 : 0 - q = p := congrArg Prod.fst e
      have e2 : u = v := congrArg Prod.snd e
      have := (h.mem q u).mp (List.mem_reverse.mp m)
      refine ⟨e2 ▸ this.1, ?_⟩
      show f (-p) = v
      rw [show -p = q by omega, this.2, e2]
    · rintro ⟨h1, h2⟩
      refine ⟨(-p, v), List.mem_reverse.mpr ((h.mem _ _).mpr ⟨h1, h2⟩), ?_⟩
      show (0 - -p, v) = (p, v)
      rw [show 0 - -p = p by omega]
/-- laurent -/
def lau (c : LP) (ks : List Int) : LP := (ks.filter fun k => (getK c k).getD 0 != 0).map fun k => (k, (getK c k).getD 0)
theorem lau_snoc (c : LP) (ks : List Int) (k : Int) : lau c (ks ++ [k]) = lau c ks ++ (if (getK c k).getD 0 != 0 then [(k, (getK c k).getD 0)] else []) := by
  unfold lau
  rw [List.filter_append, List.map_append]
  congr 1
  rw [List.filter_cons]
  split <;> rfl
theorem len_lau (c : LP) (ks : List Int) : (lau c ks).length ≤ ks.length := by
  unfold lau
  rw [List.length_map]
  exact List.length_filter_le _ _
theorem lt_of_le_nd : ∀ {ks : List Int}, ks.Pairwise (· ≤ ·) → ks.Nodup → ks.Pairwise (· < ·)
  | [], _, _ => .nil
  | k :: ks, h, nd => by
    obtain ⟨h1, h2⟩ := List.pairwise_cons.mp h
    obtain ⟨n1, n2⟩ := List.nodup_cons.mp nd
    refine List.pairwise_cons.mpr ⟨fun j hj => ?_, lt_of_le_nd h2 n2⟩
    have := h1 j hj
    have : k ≠ j := fun e => n1 (e ▸ hj)
    omega
theorem canon_lau {c : LP} {ks : List Int} (nd : (c.map (·.1)).Nodup) (hp : ks.Perm (c.map (·.1))) (hu : ks.Pairwise (· ≤ ·)) : Canon (lau c ks) (ac c dl) := by
  have up := lt_of_le_nd hu (hp.nodup_iff.mpr nd)
  unfold lau
  refine ⟨?_, fun p v => ?_⟩
  · rw [List.pairwise_map]
    exact (up.filter _).imp fun {a b} q => q
  · rw [List.mem_map, ac_dl c nd]
    constructor
    · rintro ⟨k, hk, e⟩
      have e1 : k = p := congrArg Prod.fst e
      have e2 : (getK c k).getD 0 = v := congrArg Prod.snd e
      obtain ⟨_, h2⟩ := List.mem_filter.mp hk
      subst e1
      refine ⟨?_, e2⟩
      rw [← e2]
      simpa using h2
    · rintro ⟨h1, h2⟩
      refine ⟨p, List.mem_filter.mpr ⟨hp.mem_iff.mpr ?_, by rw [h2]; simpa using h1⟩, by rw [h2]⟩
      refine Decidable.byContradiction fun z => h1 ?_
      rw [getK_none z] at h2
      exact h2.symm

/-! ### the worth of many rings at once -/
def rowAct (f : LF) : Int → List Int → LF
  | _, [] => zr
  | b, x :: l => ad (sc x (sh b f)) (rowAct f (b - 4) l)
theorem sh_rowAct (f : LF) (k : Int) : ∀ (l : List Int) (b : Int), sh k (rowAct f b l) = rowAct f (k + b) l
  | [], _ => rfl
  | x :: l, b => by
    show ad (sc x (sh k (sh b f))) (sh k (rowAct f (b - 4) l)) = ad (sc x (sh (k + b) f)) (rowAct f (k + b - 4) l)
    rw [sh_sh, sh_rowAct f k l, show k + (b - 4) = k + b - 4 by omega]
def zipA : List Int → List Int → List Int
  | x :: l, y :: m => (x + y) :: zipA l m
  | _, _ => []
theorem rowAct_zip (f : LF) : ∀ (l m : List Int) (b : Int), l.length = m.length → rowAct f b (zipA l m) = ad (rowAct f b l) (rowAct f b m)
  | [], [], _, _ => (zr_ad _).symm
  | x :: l, y :: m, b, h => by
    show ad (sc (x + y) (sh b f)) (rowAct f (b - 4) (zipA l m)) = ad (ad _ _) (ad _ _)
    rw [rowAct_zip f l m (b - 4) (by simpa using h), sc_ad, ad_assoc, ad_assoc, ad_left (sc y (sh b f))]
  | [], _ :: _, _, h => by simp at h
  | _ :: _, [], _, h => by simp at h
theorem rowAct_app0 (f : LF) : ∀ (l : List Int) (b : Int), rowAct f b (l ++ [0]) = rowAct f b l
  | [], b => by show ad (sc 0 (sh b f)) zr = zr; rw [sc_zero, ad_zr]
  | x :: l, b => by show ad _ (rowAct f (b - 4) (l ++ [0])) = _; rw [rowAct_app0 f l]; rfl
theorem rowAct_cons0 (f : LF) (l : List Int) (b : Int) : rowAct f b (0 :: l) = rowAct f (b - 4) l := by
  show ad (sc 0 (sh b f)) _ = _
  rw [sc_zero, zr_ad]
/-- a row of binomials -/
def pasc : Nat → List Int
  | 0 => [1]
  | r + 1 => zipA (pasc r ++ [0]) (0 :: pasc r)
def par (r : Nat) : Int := 1 - 2 * ((r : Int) % 2)
theorem dms_pasc (f : LF) : ∀ r, dms r f = sc (par r) (rowAct f (2 * r) (pasc r))
  | 0 => by
    show f = sc (1 - 2 * ((0 : Int) % 2)) (ad (sc 1 (sh 0 f)) zr)
    rw [ad_zr, sh_zero, sc_one]
    exact (sc_one f).symm
  | r + 1 => by
    show dm (dms r f) = _
    rw [dms_pasc f r, dm_sc, dm_eq, sh_rowAct, sh_rowAct]
    show _ = sc (par (r + 1)) (rowAct f (2 * ((r + 1 : Nat) : Int)) (zipA (pasc r ++ [0]) (0 :: pasc r)))
    rw [rowAct_zip _ _ _ _ (by simp), rowAct_app0, rowAct_cons0]
    have e : par (r + 1) = -par r := by unfold par; omega
    have e1 : (2 : Int) * ((r + 1 : Nat) : Int) = 2 + 2 * (r : Int) := by omega
    have e2 : (2 : Int) * ((r + 1 : Nat) : Int) - 4 = -2 + 2 * (r : Int) := by omega
    rw [e, e1, show (2 + 2 * (r : Int) - 4) = -2 + 2 * (r : Int) by omega]
    funext p
    show par r * (-(rowAct f (2 + 2 * (r : Int)) (pasc r) p) + -(rowAct f (-2 + 2 * (r : Int)) (pasc r) p)) = -par r * (rowAct f (2 + 2 * (r : Int)) (pasc r) p + rowAct f (-2 + 2 * (r : Int)) (pasc r) p)
    rw [← Int.neg_add, Int.mul_neg, Int.neg_mul]
/-- _law_over -/
def over (h l : Nat) : Int := (List.range l).foldl (fun (f : Int) (k : Nat) => (f * ((h : Int) - (k : Int))) / ((k : Int) + 1)) 1
theorem pasc_over : ∀ r < 20, pasc r = (List.range (r + 1)).map (over r) := by decide +kernel
theorem over_small : ∀ r < 20, ∀ j < 20, 0 ≤ over r j ∧ over r j < 1000000 := by decide +kernel
/-- the law's dict of coefficients behind so many turns of its loop -/
def lawW (c : LP) (r : Nat) (power times : Int) : Nat → LP
  | 0 => c
  | j + 1 => bump (lawW c r power times j) (power + 2 * r - 4 * j) (times * over r j * par r)
theorem nd_lawW {c : LP} (nd : (c.map (·.1)).Nodup) (r : Nat) (power times : Int) : ∀ j, ((lawW c r power times j).map (·.1)).Nodup
  | 0 => nd
  | j + 1 => nd_bump (nd_lawW nd r power times j) _ _
theorem len_lawW (c : LP) (r : Nat) (power times : Int) : ∀ j, (lawW c r power times j).length ≤ c.length + j
  | 0 => Nat.le_refl _
  | j + 1 => by
    have h1 := len_lawW c r power times j
    have h2 := len_bump (lawW c r power times j) (power + 2 * r - 4 * j) (times * over r j * par r)
    show (bump _ _ _).length ≤ _
    omega
theorem rowAct_snoc (f : LF) (x : Int) : ∀ (l : List Int) (b : Int), rowAct f b (l ++ [x]) = ad (rowAct f b l) (sc x (sh (b - 4 * l.length) f))
  | [], b => by
    show ad (sc x (sh b f)) zr = ad zr (sc x (sh (b - 4 * ((0 : Nat) : Int)) f))
    rw [ad_zr, zr_ad, show b - 4 * ((0 : Nat) : Int) = b by omega]
  | y :: l, b => by
    show ad _ (rowAct f (b - 4) (l ++ [x])) = ad (ad _ (rowAct f (b - 4) l)) _
    rw [rowAct_snoc f x l, ad_assoc, List.length_cons, show b - 4 - 4 * (l.length : Int) = b - 4 * ((l.length + 1 : Nat) : Int) by omega]
theorem ac_lawW {c : LP} (nd : (c.map (·.1)).Nodup) (r : Nat) (power times : Int) (f : LF) : ∀ j, ac (lawW c r power times j) f = ad (ac c f) (sc (times * par r) (sh power (rowAct f (2 * r) ((List.range j).map (over r)))))
  | 0 => by show ac c f = ad _ (sc _ zr); rw [sc_zr, ad_zr]
  | j + 1 => by
    show ac (bump _ _ _) f = _
    rw [ac_bump (nd_lawW nd r power times j), ac_lawW nd r power times f j, List.range_succ, List.map_append]
    show _ = ad (ac c f) (sc (times * par r) (sh power (rowAct f (2 * r) (List.map (over r) (List.range j) ++ [over r j]))))
    rw [rowAct_snoc, sh_ad, sc_add, ad_assoc, List.length_map, List.length_range, sh_sc, sh_sh, sc_sc]
    congr 2
    rw [show times * over r j * par r = times * par r * over r j by rw [Int.mul_assoc, Int.mul_comm (over r j), ← Int.mul_assoc], show power + 2 * (r : Int) - 4 * (j : Int) = power + (2 * (r : Int) - 4 * (j : Int)) by omega]
theorem ac_lawW_all {c : LP} (nd : (c.map (·.1)).Nodup) {r : Nat} (hr : r < 20) (power times : Int) (f : LF) : ac (lawW c r power times (r + 1)) f = ad (ac c f) (sc times (sh power (dms r f))) := by
  rw [ac_lawW nd, ← pasc_over r hr, dms_pasc f r, sh_sc, sc_sc]
end KB
namespace KB
/-! ### the program's table: mats and their dicts -/
abbrev Tab := List (Nat × LP)
def tot (φ : Nat → LF) : Tab → LF
  | [] => zr
  | e :: t => ad (ac e.2 (φ e.1)) (tot φ t)
theorem tot_app (φ : Nat → LF) : ∀ (t u : Tab), tot φ (t ++ u) = ad (tot φ t) (tot φ u)
  | [], u => (zr_ad _).symm
  | e :: t, u => by show ad _ (tot φ (t ++ u)) = ad (ad _ (tot φ t)) (tot φ u); rw [tot_app φ t u, ad_assoc]
/-- setdefault and add_into -/
def upT (t : Tab) (x : Nat) (d : LP) (s : Int) : Tab :=
  if x ∈ t.map (·.1) then t.map (fun e => if e.1 = x then (e.1, addI e.2 d s 1) else e) else t ++ [(x, addI [] d s 1)]
structure TabOk (n : Nat) (t : Tab) : Prop where
  nd : (t.map (·.1)).Nodup
  lt : ∀ e ∈ t, e.1 < num n
  each : ∀ e ∈ t, (e.2.map (·.1)).Nodup
def weight (t : Tab) : Nat := (t.map fun e => e.2.length).sum
section
variable {n : Nat} {t : Tab} {x : Nat} {d : LP} {s : Int}
theorem keys_upT (t : Tab) (x : Nat) (d : LP) (s : Int) : (upT t x d s).map (·.1) = if x ∈ t.map (·.1) then t.map (·.1) else t.map (·.1) ++ [x] := by
  unfold upT
  split
  · rw [List.map_map]
    refine List.map_congr_left fun e _ => ?_
    show (if e.1 = x then (e.1, addI e.2 d s 1) else e).1 = e.1
    split <;> rfl
  · rw [List.map_append]; rfl
theorem TabOk.upT (h : TabOk n t) (hx : x < num n) (d : LP) (s : Int) : TabOk n (upT t x d s) := by
  refine ⟨?_, fun e he => ?_, fun e he => ?_⟩
  · rw [keys_upT]
    split
    · exact h.nd
    · next q =>
      refine List.nodup_append.mpr ⟨h.nd, List.nodup_cons.mpr ⟨by simp, List.nodup_nil⟩, fun a ha b hb e => ?_⟩
      have : b = x := by simpa using hb
      exact q (this ▸ e ▸ ha)
  · unfold KB.upT at he
    split at he
    · obtain ⟨e0, h0, rfl⟩ := List.mem_map.mp he
      have := h.lt e0 h0
      split <;> exact this
    · rcases List.mem_append.mp he with q | q
      · exact h.lt e q
      · have : e = (x, addI [] d s 1) := by simpa using q
        rw [this]; exact hx
  · unfold KB.upT at he
    split at he
    · obtain ⟨e0, h0, rfl⟩ := List.mem_map.mp he
      have := h.each e0 h0
      split
      · exact nd_addI _ _ _ _ this
      · exact this
    · rcases List.mem_append.mp he with q | q
      · exact h.each e q
      · have : e = (x, addI [] d s 1) := by simpa using q
        rw [this]; exact nd_addI _ _ _ _ List.nodup_nil
theorem map_same' (f : Nat × LP → Nat × LP) : ∀ (t : Tab), (x ∉ t.map (·.1)) → t.map (fun e => if e.1 = x then f e else e) = t
  | [], _ => rfl
  | e :: t, h => by
    rw [List.map_cons, List.mem_cons] at h
    rw [List.map_cons, if_neg fun z => h (.inl z.symm), map_same' f t fun z => h (.inr z)]
theorem tot_repl (φ : Nat → LF) : ∀ (t : Tab), (t.map (·.1)).Nodup → (∀ e ∈ t, (e.2.map (·.1)).Nodup) → x ∈ t.map (·.1) →
    tot φ (t.map fun e => if e.1 = x then (e.1, addI e.2 d s 1) else e) = ad (tot φ t) (sh s (ac d (φ x)))
  | [], _, _, h => absurd h (by simp)
  | e :: t, nd, hd, h => by
    rw [List.map_cons] at nd
    obtain ⟨n1, n2⟩ := List.nodup_cons.mp nd
    by_cases q : e.1 = x
    · rw [List.map_cons, if_pos q, map_same' (fun e => (e.1, addI e.2 d s 1)) t (q ▸ n1)]
      show ad (ac (addI e.2 d s 1) (φ e.1)) (tot φ t) = ad (ad (ac e.2 (φ e.1)) (tot φ t)) _
      rw [ac_addI _ _ _ _ _ (hd e List.mem_cons_self), sc_one, ad_assoc, ad_assoc, q, ad_comm (tot φ t)]
    · rw [List.map_cons, List.mem_cons] at h
      rw [List.map_cons, if_neg q]
      show ad (ac e.2 (φ e.1)) (tot φ _) = ad (ad (ac e.2 (φ e.1)) (tot φ t)) _
      rw [tot_repl φ t n2 (fun e he => hd e (List.mem_cons_of_mem _ he)) (h.resolve_left fun z => q z.symm), ad_assoc]
theorem tot_upT (h : TabOk n t) (φ : Nat → LF) (x : Nat) (d : LP) (s : Int) : tot φ (upT t x d s) = ad (tot φ t) (sh s (ac d (φ x))) := by
  unfold upT
  split
  · next q => exact tot_repl φ t h.nd h.each q
  · rw [tot_app]
    show ad (tot φ t) (ad (ac (addI [] d s 1) (φ x)) zr) = _
    rw [ad_zr, ac_addI s 1 (φ x) d [] List.nodup_nil, sc_one]
    show ad _ (ad zr _) = _
    rw [zr_ad]
theorem weight_map (t : Tab) (x : Nat) (d : LP) (s : Int) : ∀ (t : Tab), (t.map (·.1)).Nodup → weight (t.map fun e => if e.1 = x then (e.1, addI e.2 d s 1) else e) ≤ weight t + d.length
  | [], _ => Nat.zero_le _
  | e :: t, nd => by
    rw [List.map_cons] at nd
    obtain ⟨n1, n2⟩ := List.nodup_cons.mp nd
    have e1 : ∀ (a : Nat × LP) (u : Tab), weight (a :: u) = a.2.length + weight u := fun a u => by unfold weight; rw [List.map_cons, List.sum_cons]
    rw [List.map_cons, e1, e1]
    by_cases q : e.1 = x
    · rw [if_pos q, map_same' (fun e => (e.1, addI e.2 d s 1)) t (q ▸ n1)]
      have := len_addI s 1 d e.2
      show (addI e.2 d s 1).length + _ ≤ _
      omega
    · rw [if_neg q]
      have := weight_map t x d s t n2
      omega
theorem weight_upT (h : TabOk n t) (x : Nat) (d : LP) (s : Int) : weight (upT t x d s) ≤ weight t + d.length := by
  unfold upT
  split
  · exact weight_map t x d s t h.nd
  · have := len_addI s 1 d []
    simp only [List.length_nil] at this
    unfold weight
    rw [List.map_append, List.sum_append]
    show _ + ((addI [] d s 1).length + 0) ≤ _
    omega
end
theorem len_upT (t : Tab) (x : Nat) (d : LP) (s : Int) : (upT t x d s).length ≤ t.length + 1 := by
  unfold upT
  split
  · rw [List.length_map]; omega
  · rw [List.length_append]; exact Nat.le_refl _
/-- one crossing more: one entry -/
def turnT (n : Nat) (c : Int) (f : Tab) (e : Nat × LP) : Tab := upT (upT f e.1 e.2 (sg c)) (rgt n e.1 (ix c)).2 (wRings e.2 (rgt n e.1 (ix c)).1) (-sg c)
def stepT (n : Nat) (c : Int) (t : Tab) : Tab := t.foldl (turnT n c) []
def startT : Tab := [(0, [(0, 1)])]
def tabOf (n : Nat) (w : List Int) : Tab := w.foldl (fun t c => stepT n c t) startT
section
variable {n : Nat} {c : Int}
theorem turnT_ok (hn : n < 6) (hc : Ok n c) {f : Tab} {e : Nat × LP} (hf : TabOk n f) (he : e.1 < num n) : TabOk n (turnT n c f e) :=
  (hf.upT he _ _).upT (rgt_lt n hn _ he _ hc.lt) _ _
theorem turnT_tot (hn : n < 6) {f : Tab} {e : Nat × LP} (hf : TabOk n f) (he : e.1 < num n) (φ : Nat → LF) : tot φ (turnT n c f e) = ad (tot φ f) (ac e.2 (R n c φ e.1)) := by
  unfold turnT R
  rw [tot_upT (hf.upT he _ _), tot_upT hf, ac_wRings, ad_assoc, ac_ad, ac_sh, ac_sh, ac_dms]
theorem turnT_weight (hn : n < 6) (hc : Ok n c) {f : Tab} {e : Nat × LP} (hf : TabOk n f) (he : e.1 < num n) : weight (turnT n c f e) ≤ weight f + 3 * e.2.length := by
  have h1 := weight_upT hf e.1 e.2 (sg c)
  have h2 := weight_upT (hf.upT he e.2 (sg c)) (rgt n e.1 (ix c)).2 (wRings e.2 (rgt n e.1 (ix c)).1) (-sg c)
  have h3 := len_wRings e.2 (rgt n e.1 (ix c)).1
  have h4 := rgt_le n hn _ he _ hc.lt
  have h5 : 2 ^ (rgt n e.1 (ix c)).1 * e.2.length ≤ 2 * e.2.length := Nat.mul_le_mul_right _ (by
    rcases Nat.le_one_iff_eq_zero_or_eq_one.mp h4 with q | q <;> rw [q] <;> decide)
  unfold turnT
  omega
theorem fold_ok (hn : n < 6) (hc : Ok n c) : ∀ (t f : Tab), TabOk n f → (∀ e ∈ t, e.1 < num n) → TabOk n (t.foldl (turnT n c) f)
  | [], _, h, _ => h
  | e :: t, f, h, hl => fold_ok hn hc t _ (turnT_ok hn hc h (hl e List.mem_cons_self)) fun e he => hl e (List.mem_cons_of_mem _ he)
theorem fold_tot (hn : n < 6) (hc : Ok n c) (φ : Nat → LF) : ∀ (t f : Tab), TabOk n f → (∀ e ∈ t, e.1 < num n) → tot φ (t.foldl (turnT n c) f) = ad (tot φ f) (tot (R n c φ) t)
  | [], f, _, _ => (ad_zr _).symm
  | e :: t, f, h, hl => by
    show tot φ (t.foldl (turnT n c) (turnT n c f e)) = ad (tot φ f) (ad (ac e.2 (R n c φ e.1)) (tot (R n c φ) t))
    rw [fold_tot hn hc φ t _ (turnT_ok hn hc h (hl e List.mem_cons_self)) fun e he => hl e (List.mem_cons_of_mem _ he), turnT_tot hn h (hl e List.mem_cons_self), ad_assoc]
theorem weight_cons (e : Nat × LP) (t : Tab) : weight (e :: t) = e.2.length + weight t := by unfold weight; rw [List.map_cons, List.sum_cons]
theorem fold_weight (hn : n < 6) (hc : Ok n c) : ∀ (t f : Tab), TabOk n f → (∀ e ∈ t, e.1 < num n) → weight (t.foldl (turnT n c) f) ≤ weight f + 3 * weight t
  | [], f, _, _ => Nat.le_add_right _ _
  | e :: t, f, h, hl => by
    have h1 := fold_weight hn hc t _ (turnT_ok hn hc h (hl e List.mem_cons_self)) fun e he => hl e (List.mem_cons_of_mem _ he)
    have h2 := turnT_weight hn hc h (hl e List.mem_cons_self)
    rw [weight_cons]
    show weight (t.foldl (turnT n c) (turnT n c f e)) ≤ _
    omega
theorem fold_len : ∀ (t f : Tab), (t.foldl (turnT n c) f).length ≤ f.length + 2 * t.length
  | [], f => Nat.le_add_right _ _
  | e :: t, f => by
    have h1 := fold_len t (turnT n c f e)
    have h2 := len_upT f e.1 e.2 (sg c)
    have h3 := len_upT (upT f e.1 e.2 (sg c)) (rgt n e.1 (ix c)).2 (wRings e.2 (rgt n e.1 (ix c)).1) (-sg c)
    have h4 : (turnT n c f e).length ≤ f.length + 2 := by unfold turnT; omega
    rw [List.length_cons]
    show (t.foldl (turnT n c) (turnT n c f e)).length ≤ _
    omega
theorem weight_take (t : Tab) (i : Nat) : weight (t.take i) ≤ weight t := by
  have e : weight t = weight (t.take i) + weight (t.drop i) := by
    have h : t = t.take i ++ t.drop i := (List.take_append_drop i t).symm
    unfold weight
    rw [← List.sum_append, ← List.map_append, List.take_append_drop]
  omega
theorem weight_mem : ∀ (t : Tab) (e : Nat × LP), e ∈ t → e.2.length ≤ weight t
  | a :: t, e, h => by
    rw [weight_cons]
    rcases List.mem_cons.mp h with q | q
    · rw [q]; omega
    · have := weight_mem t e q; omega
theorem TabOk.nil (n : Nat) : TabOk n [] := ⟨List.nodup_nil, fun _ h => (nomatch h), fun _ h => (nomatch h)⟩
theorem TabOk.start (hn : n < 6) (h0 : 0 < n) : TabOk n startT := by
  refine ⟨by decide, fun e he => ?_, fun e he => ?_⟩
  · have : e = (0, [(0, 1)]) := by simpa [startT] using he
    rw [this]; exact num_pos n hn h0
  · have : e = (0, [(0, 1)]) := by simpa [startT] using he
    rw [this]; decide
theorem stepT_ok (hn : n < 6) (hc : Ok n c) {t : Tab} (h : TabOk n t) : TabOk n (stepT n c t) := fold_ok hn hc t [] (TabOk.nil n) h.lt
theorem stepT_tot (hn : n < 6) (hc : Ok n c) {t : Tab} (h : TabOk n t) (φ : Nat → LF) : tot φ (stepT n c t) = tot (R n c φ) t := by
  unfold stepT
  rw [fold_tot hn hc φ t [] (TabOk.nil n) h.lt]
  exact zr_ad _
theorem stepT_weight (hn : n < 6) (hc : Ok n c) {t : Tab} (h : TabOk n t) : weight (stepT n c t) ≤ 3 * weight t := by
  have := fold_weight hn hc t [] (TabOk.nil n) h.lt
  unfold stepT
  show _ ≤ _
  have e : weight [] = 0 := rfl
  omega
/-- behind a beginning of the word -/
theorem tabs (hn : n < 6) : ∀ (w : List Int) (t : Tab), Word n w → TabOk n t → TabOk n (w.foldl (fun t c => stepT n c t) t) ∧ weight (w.foldl (fun t c => stepT n c t) t) ≤ 3 ^ w.length * weight t ∧
    ∀ φ, tot φ (w.foldl (fun t c => stepT n c t) t) = tot (brf n φ w) t
  | [], t, _, h => ⟨h, by show weight t ≤ 3 ^ 0 * weight t; omega, fun _ => rfl⟩
  | c :: w, t, hw, h => by
    obtain ⟨h1, h2, h3⟩ := tabs hn w (stepT n c t) hw.tail (stepT_ok hn hw.head h)
    refine ⟨h1, ?_, fun φ => ?_⟩
    · have h4 := stepT_weight hn hw.head h
      have h5 : 3 ^ w.length * weight (stepT n c t) ≤ 3 ^ w.length * (3 * weight t) := Nat.mul_le_mul_left _ h4
      have h6 : 3 ^ (c :: w).length * weight t = 3 ^ w.length * (3 * weight t) := by rw [List.length_cons, Nat.pow_succ, Nat.mul_assoc]
      show weight (w.foldl (fun t c => stepT n c t) (stepT n c t)) ≤ _
      omega
    · show tot φ (w.foldl (fun t c => stepT n c t) (stepT n c t)) = tot (R n c (brf n φ w)) t
      rw [h3, stepT_tot hn hw.head h]
theorem tabOf_ok (hn : n < 6) (h0 : 0 < n) {w : List Int} (hw : Word n w) : TabOk n (tabOf n w) := (tabs hn w startT hw (TabOk.start hn h0)).1
theorem tabOf_weight (hn : n < 6) (h0 : 0 < n) {w : List Int} (hw : Word n w) : weight (tabOf n w) ≤ 3 ^ w.length := by
  have := (tabs hn w startT hw (TabOk.start hn h0)).2.1
  have e : weight startT = 1 := rfl
  unfold tabOf
  rw [e] at this
  omega
theorem tabs_len : ∀ (w : List Int) (t : Tab), (w.foldl (fun t c => stepT n c t) t).length ≤ 2 ^ w.length * t.length
  | [], t => by show t.length ≤ 2 ^ 0 * t.length; omega
  | c :: w, t => by
    have h1 := tabs_len w (stepT n c t)
    have h2 := fold_len (n := n) (c := c) t []
    have h5 : 2 ^ w.length * (stepT n c t).length ≤ 2 ^ w.length * (2 * t.length) := Nat.mul_le_mul_left _ (by unfold stepT; have e : ([] : Tab).length = 0 := rfl; omega)
    have h6 : 2 ^ (c :: w).length * t.length = 2 ^ w.length * (2 * t.length) := by rw [List.length_cons, Nat.pow_succ, Nat.mul_assoc]
    show (w.foldl (fun t c => stepT n c t) (stepT n c t)).length ≤ _
    omega
theorem tabOf_tot (hn : n < 6) (h0 : 0 < n) {w : List Int} (hw : Word n w) (φ : Nat → LF) : tot φ (tabOf n w) = brf n φ w 0 := by
  have := (tabs hn w startT hw (TabOk.start hn h0)).2.2 φ
  unfold tabOf
  rw [this]
  show ad (ad (sc 1 (sh 0 (brf n φ w 0))) zr) zr = _
  rw [ad_zr, ad_zr, sc_one, sh_zero]
/-- all mats closed -/
def closeT (n : Nat) (total : LP) (e : Nat × LP) : LP := addI total (wRings e.2 (clo n e.1 - 1)) 0 1
theorem close_fold : ∀ (t : Tab) (c : LP), (c.map (·.1)).Nodup → ((t.foldl (closeT n) c).map (·.1)).Nodup ∧ ac (t.foldl (closeT n) c) dl = ad (ac c dl) (tot (tr n) t)
  | [], c, nd => ⟨nd, (ad_zr _).symm⟩
  | e :: t, c, nd => by
    obtain ⟨h1, h2⟩ := close_fold t (closeT n c e) (nd_addI _ _ _ _ nd)
    refine ⟨h1, ?_⟩
    show ac (t.foldl (closeT n) (closeT n c e)) dl = ad (ac c dl) (ad (ac e.2 (tr n e.1)) (tot (tr n) t))
    rw [h2]
    unfold closeT
    rw [ac_addI _ _ _ _ _ nd, ac_wRings, sc_one, sh_zero, ad_assoc, ← ac_dms]
    rfl
theorem close_len (hn : n < 6) : ∀ (t : Tab) (c : LP), (∀ e ∈ t, e.1 < num n) → (t.foldl (closeT n) c).length ≤ c.length + 16 * weight t
  | [], c, _ => Nat.le_add_right _ _
  | e :: t, c, hl => by
    have h1 := close_len hn t (closeT n c e) fun e he => hl e (List.mem_cons_of_mem _ he)
    have h2 := len_addI 0 1 (wRings e.2 (clo n e.1 - 1)) c
    have h3 := len_wRings e.2 (clo n e.1 - 1)
    have h4 := (clo_pos n hn _ (hl e List.mem_cons_self)).2
    have h5 : 2 ^ (clo n e.1 - 1) * e.2.length ≤ 16 * e.2.length := Nat.mul_le_mul_right _ (Nat.le_trans (Nat.pow_le_pow_right (by decide) (show clo n e.1 - 1 ≤ 4 by omega)) (by decide))
    rw [weight_cons]
    show (t.foldl (closeT n) (closeT n c e)).length ≤ _
    unfold closeT at h1
    unfold closeT
    omega
def totalT (n : Nat) (w : List Int) : LP := (tabOf n w).foldl (closeT n) []
def foundT (n : Nat) (w : List Int) : LP := addI [] (totalT n w) (-3 * wr w) (sgp (wr w))
theorem nd_total (w : List Int) : ((totalT n w).map (·.1)).Nodup := (close_fold (tabOf n w) [] List.nodup_nil).1
theorem nd_found (w : List Int) : ((foundT n w).map (·.1)).Nodup := nd_addI _ _ _ _ List.nodup_nil
theorem len_total (hn : n < 6) (h0 : 0 < n) {w : List Int} (hw : Word n w) : (totalT n w).length ≤ 16 * 3 ^ w.length := by
  have h1 := close_len hn (tabOf n w) [] (tabOf_ok hn h0 hw).lt
  have h2 := tabOf_weight hn h0 hw
  have e : ([] : LP).length = 0 := rfl
  unfold totalT
  omega
theorem found_poly (hn : n < 6) (h0 : 0 < n) {w : List Int} (hw : Word n w) : ac (foundT n w) dl = poly n w := by
  unfold foundT poly
  rw [ac_addI _ _ dl (totalT n w) [] List.nodup_nil]
  show ad zr _ = _
  rw [zr_ad]
  congr 2
  unfold totalT
  rw [(close_fold (tabOf n w) [] List.nodup_nil).2, tabOf_tot hn h0 hw]
  exact zr_ad _
end

/-! ### the law's table: choices -/
abbrev Stt := Nat × Nat × Int
abbrev Sts := List (Stt × Int)
def wg (φ : Nat → LF) (k : Stt) : LF := sh k.2.2 (dms k.2.1 (φ k.1))
def turnS (n : Nat) (c : Int) (f : Sts) (e : Stt × Int) : Sts :=
  bump (bump f (e.1.1, e.1.2.1, e.1.2.2 + sg c) e.2) ((rgt n e.1.1 (ix c)).2, e.1.2.1 + (rgt n e.1.1 (ix c)).1, e.1.2.2 - sg c) e.2
def stepS (n : Nat) (c : Int) (t : Sts) : Sts := t.foldl (turnS n c) []
def startS : Sts := [((0, 0, 0), 1)]
def stsOf (n : Nat) (w : List Int) : Sts := w.foldl (fun t c => stepS n c t) startS
/-- what holds of a table behind k crossings -/
structure StsOk (n k : Nat) (t : Sts) : Prop where
  nd : (t.map (·.1)).Nodup
  lt : ∀ e ∈ t, e.1.1 < num n
  le : ∀ e ∈ t, e.1.2.1 ≤ k
section
variable {n : Nat} {c : Int}
theorem mem_bump {κ : Type} [DecidableEq κ] {t : List (κ × Int)} {k : κ} {v : Int} {e : κ × Int} (h : e ∈ bump t k v) : e.1 = k ∨ e.1 ∈ t.map (·.1) := by
  have h1 : e.1 ∈ (bump t k v).map (·.1) := List.mem_map.mpr ⟨e, h, rfl⟩
  unfold bump at h1
  rw [keys_put] at h1
  split at h1
  · exact .inr h1
  · rcases List.mem_append.mp h1 with q | q
    · exact .inr q
    · exact .inl (by simpa using q)
theorem StsOk.bump {k : Nat} {t : Sts} (h : StsOk n k t) {s : Stt} (v : Int) (h1 : s.1 < num n) (h2 : s.2.1 ≤ k) : StsOk n k (KB.bump t s v) := by
  refine ⟨nd_bump h.nd _ _, fun e he => ?_, fun e he => ?_⟩
  · rcases mem_bump he with q | q
    · rw [q]; exact h1
    · obtain ⟨e', he', q⟩ := List.mem_map.mp q
      rw [← q]; exact h.lt e' he'
  · rcases mem_bump he with q | q
    · rw [q]; exact h2
    · obtain ⟨e', he', q⟩ := List.mem_map.mp q
      rw [← q]; exact h.le e' he'
theorem turnS_ok (hn : n < 6) (hc : Ok n c) {k : Nat} {f : Sts} {e : Stt × Int} (hf : StsOk n (k + 1) f) (he : e.1.1 < num n) (hk : e.1.2.1 ≤ k) : StsOk n (k + 1) (turnS n c f e) := by
  have h1 := rgt_le n hn _ he _ hc.lt
  exact (hf.bump (s := (e.1.1, e.1.2.1, e.1.2.2 + sg c)) e.2 he (by show e.1.2.1 ≤ k + 1; omega)).bump (s := ((rgt n e.1.1 (ix c)).2, e.1.2.1 + (rgt n e.1.1 (ix c)).1, e.1.2.2 - sg c)) e.2 (rgt_lt n hn _ he _ hc.lt) (by show e.1.2.1 + (rgt n e.1.1 (ix c)).1 ≤ k + 1; omega)
theorem turnS_act {f : Sts} {e : Stt × Int} (hf : (f.map (·.1)).Nodup) (φ : Nat → LF) : act (wg φ) (turnS n c f e) = ad (act (wg φ) f) (sc e.2 (wg (R n c φ) e.1)) := by
  unfold turnS
  rw [act_bump _ (nd_bump hf _ _), act_bump _ hf, ad_assoc, ← sc_add]
  congr 2
  show ad (sh (e.1.2.2 + sg c) (dms e.1.2.1 (φ e.1.1))) (sh (e.1.2.2 - sg c) (dms (e.1.2.1 + (rgt n e.1.1 (ix c)).1) (φ (rgt n e.1.1 (ix c)).2))) = sh e.1.2.2 (dms e.1.2.1 (R n c φ e.1.1))
  unfold R
  rw [dms_ad, ← sh_dms, ← sh_dms, dms_dms, sh_ad, sh_sh, sh_sh]
  rfl
theorem foldS (hn : n < 6) (hc : Ok n c) {k : Nat} (φ : Nat → LF) : ∀ (t f : Sts), StsOk n (k + 1) f → (∀ e ∈ t, e.1.1 < num n) → (∀ e ∈ t, e.1.2.1 ≤ k) →
    StsOk n (k + 1) (t.foldl (turnS n c) f) ∧ act (wg φ) (t.foldl (turnS n c) f) = ad (act (wg φ) f) (act (wg (R n c φ)) t) ∧ (t.foldl (turnS n c) f).length ≤ f.length + 2 * t.length
  | [], f, h, _, _ => ⟨h, (ad_zr _).symm, Nat.le_add_right _ _⟩
  | e :: t, f, h, hl, hk => by
    obtain ⟨h1, h2, h3⟩ := foldS hn hc φ t (turnS n c f e) (turnS_ok hn hc h (hl e List.mem_cons_self) (hk e List.mem_cons_self)) (fun e he => hl e (List.mem_cons_of_mem _ he)) fun e he => hk e (List.mem_cons_of_mem _ he)
    refine ⟨h1, ?_, ?_⟩
    · show act (wg φ) (t.foldl (turnS n c) (turnS n c f e)) = ad (act (wg φ) f) (ad (sc e.2 (wg (R n c φ) e.1)) (act (wg (R n c φ)) t))
      rw [h2, turnS_act h.nd, ad_assoc]
    · have a1 := len_bump f (e.1.1, e.1.2.1, e.1.2.2 + sg c) e.2
      have a2 := len_bump (bump f (e.1.1, e.1.2.1, e.1.2.2 + sg c) e.2) ((rgt n e.1.1 (ix c)).2, e.1.2.1 + (rgt n e.1.1 (ix c)).1, e.1.2.2 - sg c) e.2
      rw [List.length_cons]
      show (t.foldl (turnS n c) (turnS n c f e)).length ≤ _
      unfold turnS at h3 ⊢
      omega
theorem StsOk.nil (n k : Nat) : StsOk n k [] := ⟨List.nodup_nil, fun _ h => (nomatch h), fun _ h => (nomatch h)⟩
theorem stepS_all (hn : n < 6) (hc : Ok n c) {k : Nat} {t : Sts} (h : StsOk n k t) (φ : Nat → LF) :
    StsOk n (k + 1) (stepS n c t) ∧ act (wg φ) (stepS n c t) = act (wg (R n c φ)) t ∧ (stepS n c t).length ≤ 2 * t.length := by
  obtain ⟨h1, h2, h3⟩ := foldS hn hc φ t [] (StsOk.nil n (k + 1)) h.lt h.le
  refine ⟨h1, h2.trans (zr_ad _), ?_⟩
  unfold stepS
  have e : ([] : Sts).length = 0 := rfl
  omega
theorem sts (hn : n < 6) : ∀ (w : List Int) (k : Nat) (t : Sts), Word n w → StsOk n k t → StsOk n (k + w.length) (w.foldl (fun t c => stepS n c t) t) ∧ (w.foldl (fun t c => stepS n c t) t).length ≤ 2 ^ w.length * t.length ∧
    ∀ φ, act (wg φ) (w.foldl (fun t c => stepS n c t) t) = act (wg (brf n φ w)) t
  | [], k, t, _, h => ⟨h, by show t.length ≤ 2 ^ 0 * t.length; omega, fun _ => rfl⟩
  | c :: w, k, t, hw, h => by
    obtain ⟨h1, h2, h3⟩ := sts hn w (k + 1) (stepS n c t) hw.tail (stepS_all hn hw.head h (tr n)).1
    refine ⟨?_, ?_, fun φ => ?_⟩
    · rw [List.length_cons, show k + (w.length + 1) = k + 1 + w.length by omega]
      exact h1
    · have h4 := (stepS_all hn hw.head h (tr n)).2.2
      have h5 : 2 ^ w.length * (stepS n c t).length ≤ 2 ^ w.length * (2 * t.length) := Nat.mul_le_mul_left _ h4
      have h6 : 2 ^ (c :: w).length * t.length = 2 ^ w.length * (2 * t.length) := by rw [List.length_cons, Nat.pow_succ, Nat.mul_assoc]
      show (w.foldl (fun t c => stepS n c t) (stepS n c t)).length ≤ _
      omega
    · show act (wg φ) (w.foldl (fun t c => stepS n c t) (stepS n c t)) = act (wg (R n c (brf n φ w))) t
      rw [h3, (stepS_all hn hw.head h (brf n φ w)).2.1]
theorem StsOk.start (hn : n < 6) (h0 : 0 < n) : StsOk n 0 startS := by
  refine ⟨by decide, fun e he => ?_, fun e he => ?_⟩
  · have : e = ((0, 0, 0), 1) := by simpa [startS] using he
    rw [this]; exact num_pos n hn h0
  · have : e = ((0, 0, 0), 1) := by simpa [startS] using he
    rw [this]; exact Nat.le_refl _
theorem stsOf_ok (hn : n < 6) (h0 : 0 < n) {w : List Int} (hw : Word n w) : StsOk n w.length (stsOf n w) := by
  have := (sts hn w 0 startS hw (StsOk.start hn h0)).1
  rw [Nat.zero_add] at this
  exact this
theorem stsOf_len (hn : n < 6) (h0 : 0 < n) {w : List Int} (hw : Word n w) : (stsOf n w).length ≤ 2 ^ w.length := by
  have := (sts hn w 0 startS hw (StsOk.start hn h0)).2.1
  have e : startS.length = 1 := rfl
  unfold stsOf
  rw [e] at this
  omega
theorem stsOf_act (hn : n < 6) (h0 : 0 < n) {w : List Int} (hw : Word n w) (φ : Nat → LF) : act (wg φ) (stsOf n w) = brf n φ w 0 := by
  have := (sts hn w 0 startS hw (StsOk.start hn h0)).2.2 φ
  unfold stsOf
  rw [this]
  show ad (sc 1 (sh 0 (brf n φ w 0))) zr = _
  rw [ad_zr, sc_one, sh_zero]
/-- _law_due's row -/
def dueT (n : Nat) (t : Int) (row : LP) (e : Stt × Int) : LP := lawW row (e.1.2.1 + clo n e.1.1 - 1) (e.1.2.2 - 3 * t) (e.2 * sgp t) (e.1.2.1 + clo n e.1.1 - 1 + 1)
def dueRow (n : Nat) (w : List Int) : LP := (stsOf n w).foldl (dueT n (wr w)) []
theorem due_fold (hn : n < 6) {k : Nat} (hk : k ≤ 12) (t : Int) : ∀ (st : Sts) (row : LP), (∀ e ∈ st, e.1.1 < num n) → (∀ e ∈ st, e.1.2.1 ≤ k) → (row.map (·.1)).Nodup →
    ((st.foldl (dueT n t) row).map (·.1)).Nodup ∧ ac (st.foldl (dueT n t) row) dl = ad (ac row dl) (sc (sgp t) (sh (-3 * t) (act (wg (tr n)) st))) ∧ (st.foldl (dueT n t) row).length ≤ row.length + 17 * st.length
  | [], row, _, _, nd => ⟨nd, by show ac row dl = ad _ (sc _ zr); rw [sc_zr, ad_zr], Nat.le_add_right _ _⟩
  | e :: st, row, hl, hle, nd => by
    obtain ⟨h1, h2, h3⟩ := due_fold hn hk t st (dueT n t row e) (fun e he => hl e (List.mem_cons_of_mem _ he)) (fun e he => hle e (List.mem_cons_of_mem _ he)) (nd_lawW nd _ _ _ _)
    have a1 := clo_pos n hn _ (hl e List.mem_cons_self)
    have a2 := hle e List.mem_cons_self
    refine ⟨h1, ?_, ?_⟩
    · show ac (st.foldl (dueT n t) (dueT n t row e)) dl = ad (ac row dl) (sc (sgp t) (sh (-3 * t) (ad (sc e.2 (wg (tr n) e.1)) (act (wg (tr n)) st))))
      rw [h2]
      unfold dueT
      rw [ac_lawW_all nd (by omega), sh_ad, sc_add, ad_assoc]
      congr 1
      show ad _ (sc (sgp t) (sh (-3 * t) (act (wg (tr n)) st))) = _
      congr 1
      show sc (e.2 * sgp t) (sh (e.1.2.2 - 3 * t) (dms (e.1.2.1 + clo n e.1.1 - 1) dl)) = sc (sgp t) (sc e.2 (sh (-3 * t) (sh e.1.2.2 (dms e.1.2.1 (dms (clo n e.1.1 - 1) dl)))))
      rw [dms_dms, sh_sh, sc_sc, Int.mul_comm e.2, show e.1.2.1 + clo n e.1.1 - 1 = e.1.2.1 + (clo n e.1.1 - 1) by omega, show e.1.2.2 - 3 * t = -3 * t + e.1.2.2 by omega]
    · have a3 := len_lawW row (e.1.2.1 + clo n e.1.1 - 1) (e.1.2.2 - 3 * t) (e.2 * sgp t) (e.1.2.1 + clo n e.1.1 - 1 + 1)
      rw [List.length_cons]
      show (st.foldl (dueT n t) (dueT n t row e)).length ≤ _
      unfold dueT at h3 ⊢
      omega
theorem nd_dueRow (hn : n < 6) (h0 : 0 < n) {w : List Int} (hw : Word n w) (hl : w.length ≤ 12) : ((dueRow n w).map (·.1)).Nodup :=
  (due_fold hn hl (wr w) (stsOf n w) [] (stsOf_ok hn h0 hw).lt (stsOf_ok hn h0 hw).le List.nodup_nil).1
theorem due_poly (hn : n < 6) (h0 : 0 < n) {w : List Int} (hw : Word n w) (hl : w.length ≤ 12) : ac (dueRow n w) dl = poly n w := by
  unfold dueRow
  rw [(due_fold hn hl (wr w) (stsOf n w) [] (stsOf_ok hn h0 hw).lt (stsOf_ok hn h0 hw).le List.nodup_nil).2.1, stsOf_act hn h0 hw]
  exact zr_ad _
end
end KB
namespace KB
/-! ### the program's put_behind, step by step -/
def farLoop (n mid : Nat) (a b : List Nat) : Nat → Bool → Nat → List Bool → Option (Nat × List Bool)
  | 0, _, _, _ => none
  | f + 1, true, x, ps => if x < n then some (x, ps) else if x - n < ps.length then (match b[x - n]? with | some y => farLoop n mid a b f false y (ps.set (x - n) true) | none => none) else none
  | f + 1, false, x, ps => if mid ≤ x then some (n + x - mid, ps) else if x < ps.length then (match a[n + x]? with | some y => farLoop n mid a b f true y (ps.set x true) | none => none) else none
def farEnd (n mid : Nat) (a b : List Nat) (peg : Nat) (ps : List Bool) : Option (Nat × List Bool) :=
  match (if peg < n then a[peg]? else b[mid + peg - n]?) with
  | some x => farLoop n mid a b 40 (decide (peg < n)) x ps
  | none => none
def farAll (n mid : Nat) (a b : List Nat) : List Nat → List Bool → List Nat → Option (List Nat × List Bool)
  | [], ps, acc => some (acc, ps)
  | peg :: r, ps, acc => match farEnd n mid a b peg ps with | some (x, ps') => farAll n mid a b r ps' (acc ++ [x]) | none => none
def ringLoop (n : Nat) (a b : List Nat) : Nat → Nat → List Bool → Option (List Bool)
  | 0, _, _ => none
  | f + 1, x, ps => match ps[x]? with
    | none => none
    | some true => some ps
    | some false => match a[n + x]? with
      | none => none
      | some y => if n ≤ y ∧ y - n < ps.length then (match b[y - n]? with | some z => ringLoop n a b f z ((ps.set x true).set (y - n) true) | none => none) else none
def looseAll (n : Nat) (a b : List Nat) : List Nat → List Bool → Nat → Option (Nat × List Bool)
  | [], ps, r => some (r, ps)
  | s :: rest, ps, r => match ps[s]? with
    | none => none
    | some true => looseAll n a b rest ps r
    | some false => match ringLoop n a b 40 s ps with | some ps' => looseAll n a b rest ps' (r + 1) | none => none
def putB (n mid k : Nat) (a b : List Nat) : Option (Nat × List Nat) :=
  match farAll n mid a b (List.range (n + k)) (List.replicate mid false) [] with
  | some (ms, ps) => (match looseAll n a b (List.range mid) ps 0 with | some (r, _) => some (r, ms) | none => none)
  | none => none
/-! ### the law's -/
def lwLoop (n mid : Nat) (a b : List Nat) : Nat → Bool → Nat → List Bool → Option (Bool × Nat × List Bool)
  | 0, u, p, s => some (u, p, s)
  | k + 1, true, p, s => match a[p]? with
    | none => none
    | some q => if q < n then some (true, q, s) else if q - n < s.length then lwLoop n mid a b k false (q - n) (s.set (q - n) true) else none
  | k + 1, false, p, s => match b[p]? with
    | none => none
    | some q => if mid ≤ q then some (false, q, s) else if q < s.length then lwLoop n mid a b k true (q + n) (s.set q true) else none
def lwOne (n mid : Nat) (a b : List Nat) (start : Nat) (s : List Bool) : Option (Nat × List Bool) :=
  match lwLoop n mid a b (2 * mid + 2) (decide (start < n)) (if n ≤ start then start - n + mid else start) s with
  | none => none
  | some (true, p, s') => some (p, s')
  | some (false, p, s') => if mid ≤ p then some (p - mid + n, s') else none
def lwAll (n mid : Nat) (a b : List Nat) : List Nat → List Bool → List Nat → Option (List Nat × List Bool)
  | [], s, ms => some (ms, s)
  | x :: r, s, ms => match lwOne n mid a b x s with | none => none | some (y, s') => if x < ms.length then lwAll n mid a b r s' (ms.set x y) else none
def lwRing (n : Nat) (a b : List Nat) : Nat → Nat → List Bool → Option (List Bool)
  | 0, _, s => some s
  | k + 1, p, s => match s[p]? with
    | none => none
    | some true => lwRing n a b k p s
    | some false => match b[p]? with
      | none => none
      | some q => if q < s.length then (match a[n + q]? with | none => none | some z => if n ≤ z then lwRing n a b k (z - n) ((s.set p true).set q true) else none) else none
def lwLoose (n mid : Nat) (a b : List Nat) : List Nat → List Bool → Nat → Option (Nat × List Bool)
  | [], s, r => some (r, s)
  | x :: rest, s, r => match s[x]? with
    | none => none
    | some t => match lwRing n a b mid x s with | some s' => lwLoose n mid a b rest s' (r + (if t = true then 0 else 1)) | none => none
def lwPut (n mid k : Nat) (a b : List Nat) : Option (Nat × List Nat) :=
  match lwAll n mid a b (List.range (n + k)) (List.replicate mid false) (List.replicate (n + k) 0) with
  | some (ms, s) => (match lwLoose n mid a b (List.range mid) s 0 with | some (r, _) => some (r, ms) | none => none)
  | none => none
def lcRing (n : Nat) (a : List Nat) : Nat → Nat → List Bool → Option (List Bool)
  | 0, _, s => some s
  | k + 1, p, s => match s[p]? with
    | none => none
    | some true => lcRing n a k p s
    | some false => match a[p]? with
      | none => none
      | some q => if q < s.length then lcRing n a k ((q + n) % (2 * n)) ((s.set p true).set q true) else none
def lcLoose (n : Nat) (a : List Nat) : List Nat → List Bool → Nat → Option (Nat × List Bool)
  | [], s, r => some (r, s)
  | x :: rest, s, r => match s[x]? with
    | none => none
    | some t => match lcRing n a (2 * n) x s with | some s' => lcLoose n a rest s' (r + (if t = true then 0 else 1)) | none => none
def lcAll (n : Nat) (a : List Nat) : Option Nat := (lcLoose n a (List.range (2 * n)) (List.replicate (2 * n) false) 0).map (·.1)
/-! ### straight mats and hooks -/
def strL (n : Nat) : List Nat := (List.range n).map (n + ·) ++ List.range n
def hookL (n i : Nat) : List Nat := ((((strL n).set i (i + 1)).set (i + 1) i).set (n + i) (n + i + 1)).set (n + i + 1) (n + i)
theorem mat_zero : ∀ n < 6, 0 < n → mat n 0 = strL n := by decide +kernel
theorem mat_inj' : ∀ n < 6, ∀ x < num n, ∀ y < num n, x = y ∨ mat n x ≠ mat n y := by decide +kernel
theorem mat_inj {n x y : Nat} (hn : n < 6) (hx : x < num n) (hy : y < num n) (h : mat n x = mat n y) : x = y := (mat_inj' n hn x hx y hy).resolve_right fun z => z h
theorem mat_len : ∀ n < 6, ∀ x < num n, (mat n x).length = 2 * n := by decide +kernel
theorem putB_mat : ∀ n < 6, ∀ x < num n, ∀ i < n - 1, putB n n n (mat n x) (hookL n i) = some ((rgt n x i).1, mat n (rgt n x i).2) := by decide +kernel
theorem putB_clo : ∀ n < 6, ∀ x < num n, putB 0 (2 * n) 0 (mat n x) (strL n) = some (clo n x, []) := by decide +kernel
theorem lwPut_mat : ∀ n < 6, ∀ x < num n, ∀ i < n - 1, lwPut n n n (mat n x) (hookL n i) = some ((rgt n x i).1, mat n (rgt n x i).2) := by decide +kernel
theorem lcAll_clo : ∀ n < 6, ∀ x < num n, lcAll n (mat n x) = some (clo n x) := by decide +kernel
end KB

set_option Elab.async false
set_option linter.all false
set_option maxRecDepth 100000
set_option maxHeartbeats 1000000
/-! KDn: dicts whose keys are nested tuples of whole numbers, over the hand layer. -/
namespace KN
open PySem PySem.Spec L2
open PyProof.Rows hiding St

mutual
/-- the tracked value is that nested key -/
inductive KeyV (H : Hp) : NestedKey → V → Prop
  | num (i : Int) : KeyV H (.num i) (.int i)
  | tup {a : Addr} {vs : List V} {ks : List NestedKey} : H a = some (.tup vs) → KeyVs H ks vs → KeyV H (.tup ks) (.ref a)
inductive KeyVs (H : Hp) : List NestedKey → List V → Prop
  | nil : KeyVs H [] []
  | cons {k : NestedKey} {x : V} {ks : List NestedKey} {xs : List V} : KeyV H k x → KeyVs H ks xs → KeyVs H (k :: ks) (x :: xs)
end
mutual
theorem KeyV.keep {H H' : Hp} (ht : ∀ b xs, H b = some (.tup xs) → H' b = some (.tup xs)) : ∀ (k : NestedKey) (x : V), KeyV H k x → KeyV H' k x
  | .num i, _, h => by cases h; exact .num i
  | .tup ks, _, h => by
    cases h with
    | tup e r => exact .tup (ht _ _ e) (KeyVs.keep ht ks _ r)
  | .none, _, h => nomatch h
  | .text _, _, h => nomatch h
theorem KeyVs.keep {H H' : Hp} (ht : ∀ b xs, H b = some (.tup xs) → H' b = some (.tup xs)) : ∀ (ks : List NestedKey) (xs : List V), KeyVs H ks xs → KeyVs H' ks xs
  | [], _, h => by cases h; exact .nil
  | k :: ks, _, h => by
    cases h with
    | cons a b => exact .cons (KeyV.keep ht k _ a) (KeyVs.keep ht ks _ b)
end
mutual
theorem KeyV.nested {P : Program} {w : World} {H : Hp} {h : Heap} (ok : HOk P w H h) : ∀ (k : NestedKey) (x : V) (u : Value), KeyV H k x → RelV x u → NestedIs h k u
  | .num i, _, _, hk, r => by
    cases hk
    obtain ⟨t, rfl⟩ := r
    exact .int i t
  | .tup ks, _, _, hk, r => by
    cases hk with
    | @tup a vs _ e q =>
      cases r
      obtain ⟨_, its, rv, o, h1, h2, n, h3⟩ := (show ObjOk P w H h a (.tup vs) from ok a _ e)
      exact .tup h1 h2 h3 (by simpa using KeyVs.nested ok ks vs its q rv)
  | .none, _, _, hk, _ => nomatch hk
  | .text _, _, _, hk, _ => nomatch hk
theorem KeyVs.nested {P : Program} {w : World} {H : Hp} {h : Heap} (ok : HOk P w H h) : ∀ (ks : List NestedKey) (xs : List V) (us : List Value), KeyVs H ks xs → Vals xs us → NestedAll h ks us
  | [], _, _, hk, r => by
    cases hk
    cases r
    exact .nil
  | k :: ks, _, _, hk, r => by
    cases hk with
    | cons a b =>
      cases r with
      | cons r1 r2 => exact .cons (KeyV.nested ok k _ _ a r1) (KeyVs.nested ok ks _ _ b r2)
end

/-- an entry: the key, where its tuple stands, the value -/
abbrev En := NestedKey × Addr × V
abbrev REn : List En → List (NestedKey × Addr × Value) → Prop := Paired fun (p : En) (q : NestedKey × Addr × Value) => p.1 = q.1 ∧ p.2.1 = q.2.1 ∧ RelV p.2.2 q.2.2
def RawN (P : Program) (w : World) (a : Addr) (xs : List En) (h : Heap) : Prop :=
  ∃ vs, REn xs vs ∧ ∃ o es ep, h.get? a = some o ∧ o.ExactDict ∧ o.data = .dict es ep ∧ es.toList = vs.map (entryOfKey (nestedKind P w)) ∧ (vs.map (·.1)).Nodup
/-- the dict's object, as tracked -/
def nO (P : Program) (w : World) (a : Addr) (xs : List En) : HO := .ext (RawN P w a xs)
/-- what is known of the entries -/
structure Ens (H : Hp) (a : Addr) (xs : List En) : Prop where
  len : xs.length ≤ sizeLine
  sys : (a == sysModules) = false
  key : ∀ x ∈ xs, KeyV H x.1 (.ref x.2.1) ∧ x.1.depth ≤ 8
/-- at a stands a dict of these entries: to be read -/
def DNr (P : Program) (w : World) (H : Hp) (a : Addr) (xs : List En) : Prop := Ens H a xs ∧ Rd H a (nO P w a xs)
/-- .. to be read and written -/
def DN (P : Program) (w : World) (H : Hp) (a : Addr) (xs : List En) : Prop := Ens H a xs ∧ H a = some (nO P w a xs)
theorem DN.r {P : Program} {w : World} {H : Hp} {a : Addr} {xs : List En} (h : DN P w H a xs) : DNr P w H a xs := ⟨h.1, .inl h.2⟩
theorem Ens.keep {H H' : Hp} {a : Addr} {xs : List En} (h : Ens H a xs) (ht : ∀ b xs, H b = some (.tup xs) → H' b = some (.tup xs)) : Ens H' a xs :=
  ⟨h.len, h.sys, fun x m => ⟨KeyV.keep ht _ _ (h.key x m).1, (h.key x m).2⟩⟩
theorem DN.keep {P : Program} {w : World} {H H' : Hp} {a : Addr} {xs : List En} (h : DN P w H a xs) (hs : ∀ b o, H b = some o → H' b = some o) : DN P w H' a xs :=
  ⟨h.1.keep fun b ys e => hs b _ e, hs _ _ h.2⟩
theorem DNr.keep {P : Program} {w : World} {H H' : Hp} {a : Addr} {xs : List En} (h : DNr P w H a xs) (hs : ∀ b o, H b = some o → H' b = some o) : DNr P w H' a xs :=
  ⟨h.1.keep fun b ys e => hs b _ e, h.2.elim (fun e => .inl (hs _ _ e)) fun ⟨o, e⟩ => .inr ⟨o, hs _ _ e⟩⟩

def valN (xs : List En) (k : NestedKey) : Option V := (xs.find? fun x => decide (x.1 = k)).map (·.2.2)
def putN (xs : List En) (k : NestedKey) (b : Addr) (v : V) : List En := if (valN xs k).isSome = true then xs.map (fun x => if x.1 = k then (x.1, x.2.1, v) else x) else xs ++ [(k, b, v)]
theorem valN_pos {x : En} {xs : List En} {k : NestedKey} (e : x.1 = k) : valN (x :: xs) k = some x.2.2 := by simp [valN, List.find?_cons, e]
theorem valN_neg {x : En} {xs : List En} {k : NestedKey} (e : ¬ x.1 = k) : valN (x :: xs) k = valN xs k := by simp [valN, List.find?_cons, e]
theorem len_putN (xs : List En) (k : NestedKey) (b : Addr) (v : V) : (putN xs k b v).length ≤ xs.length + 1 := by
  unfold putN
  split
  · rw [List.length_map]; omega
  · rw [List.length_append]; exact Nat.le_refl _

theorem REn.val {xs : List En} {vs : List (NestedKey × Addr × Value)} (r : REn xs vs) (k : NestedKey) : RelO (valN xs k) ((atKey vs k).map (·.2)) := by
  induction r with
  | nil => exact True.intro
  | @cons p q ps qs h t ih =>
    obtain ⟨h1, _, h2⟩ := h
    by_cases e : p.1 = k
    · have e' : q.1 = k := h1.symm.trans e
      have b : atKey (q :: qs) k = some q.2 := by simp [atKey, List.find?_cons, e']
      rw [valN_pos e, b]
      exact h2
    · have e' : ¬ q.1 = k := fun z => e (h1.trans z)
      have b : atKey (q :: qs) k = atKey qs k := by simp [atKey, List.find?_cons, e']
      rw [valN_neg e, b]
      exact ih
theorem REn.repl {xs : List En} {vs : List (NestedKey × Addr × Value)} (r : REn xs vs) (k : NestedKey) {y : V} {u : Value} (ry : RelV y u) : REn (xs.map fun x => if x.1 = k then (x.1, x.2.1, y) else x) (vs.map (putAt k u)) := by
  induction r with
  | nil => exact .nil
  | @cons p q ps qs h t ih =>
    rw [List.map_cons, List.map_cons]
    refine .cons ?_ ih
    obtain ⟨h1, h2, h3⟩ := h
    unfold putAt
    by_cases e : p.1 = k
    · rw [if_pos e, if_pos (h1.symm.trans e)]
      exact ⟨h1, h2, ry⟩
    · rw [if_neg e, if_neg fun z => e (h1.trans z)]
      exact ⟨h1, h2, h3⟩
theorem REn.put {xs : List En} {vs : List (NestedKey × Addr × Value)} (r : REn xs vs) (k : NestedKey) (b : Addr) {y : V} {u : Value} (ry : RelV y u) : REn (putN xs k b y) (storedH vs k b u) := by
  have e : (valN xs k).isSome = (atKey vs k).isSome := by rw [(r.val k).isSome_eq, Option.isSome_map]
  unfold putN storedH
  rw [e]
  by_cases q : (atKey vs k).isSome = true
  · rw [if_pos q, if_pos q]
    exact r.repl k ry
  · rw [if_neg q, if_neg q]
    exact Paired.snoc r ⟨rfl, rfl, ry⟩
theorem REn.get {xs : List En} {vs : List (NestedKey × Addr × Value)} (r : REn xs vs) : ∀ {i : Nat} {x : En}, xs[i]? = some x → ∃ q, vs[i]? = some q ∧ x.1 = q.1 ∧ x.2.1 = q.2.1 ∧ RelV x.2.2 q.2.2 := by
  induction r with
  | nil => intro i x e; simp at e
  | @cons p q ps qs h t ih =>
    intro i x e
    cases i with
    | zero =>
      have e' : p = x := Option.some.inj (by simpa using e)
      subst e'
      exact ⟨q, rfl, h⟩
    | succ i =>
      obtain ⟨z, hz, k⟩ := ih (i := i) (x := x) (by simpa using e)
      exact ⟨z, by simpa using hz, k⟩

theorem rawN_at {P : Program} {w : World} {a : Addr} {xs : List En} {h h' : Heap} (r : RawN P w a xs h) (k : ∀ o, h.get? a = some o → h'.get? a = some o) : RawN P w a xs h' := by
  obtain ⟨vs, rv, o, es, ep, ho, q⟩ := r
  exact ⟨vs, rv, o, es, ep, k o ho, q⟩
theorem nO_ok {P : Program} {w : World} {H : Hp} {h : Heap} {a : Addr} {xs : List En} (r : RawN P w a xs h) : ObjOk P w H h a (nO P w a xs) := by
  have ⟨_, _, o, _, _, ho, _⟩ := r
  exact ⟨r, ⟨o, ho⟩, fun h1 h2 p k => rawN_at p k⟩
section
variable {P : Program} {w : World} {H : Hp} {h : Heap} {a : Addr} {xs : List En}
theorem DNr.raw (ok : HOk P w H h) (d : DNr P w H a xs) : RawN P w a xs h := by
  have x : ObjOk P w H h a (nO P w a xs) := d.2.ok ok
  exact x.1
/-- the library's telling of it -/
theorem DNr.of (ok : HOk P w H h) (d : DNr P w H a xs) : ∃ vs, REn xs vs ∧ h.DictOfH (nestedKind P w) a vs := by
  obtain ⟨vs, rv, o, es, ep, h1, h2, h3, h4, h5⟩ := d.raw ok
  refine ⟨vs, rv, o, es, ep, h1, h2, h3, h4, fun y hy => ?_, h5⟩
  have all : ∀ {l : List En} {m : List (NestedKey × Addr × Value)}, REn l m → (∀ x ∈ l, KeyV H x.1 (.ref x.2.1) ∧ x.1.depth ≤ 8) → ∀ y ∈ m, (nestedKind P w).is h y.1 y.2.1 := by
    intro l m q
    induction q with
    | nil => intro _ y hy; exact nomatch hy
    | @cons p q ps qs hq t ih =>
      intro hk y hy
      rcases List.mem_cons.mp hy with e | hy
      · subst e
        obtain ⟨k1, k2⟩ := hk p List.mem_cons_self
        rw [← hq.1, ← hq.2.1]
        exact ⟨KeyV.nested ok _ _ _ k1 rfl, k2⟩
      · exact ih (fun x hx => hk x (List.mem_cons_of_mem _ hx)) y hy
  exact all rv d.1.key y hy
theorem key_is (ok : HOk P w H h) {k : NestedKey} {b : Addr} (hk : KeyV H k (.ref b)) (hd : k.depth ≤ 8) : (nestedKind P w).is h k b := ⟨KeyV.nested ok _ _ _ hk rfl, hd⟩
end
theorem room1 {P : Program} {w : World} {A : Around} (hu : A.units + 64 < cLine) : (nestedKind P w).room A.in1 := by
  show A.in1.units + 8 < cLine
  rw [Around.in1_units]
  omega

section
variable {X : Cx} {pins : List (Addr × Obj)} {σ : St} {H : Hp} {s : Shared} {a b : Addr} {xs : List En} {k : NestedKey} {v : V} {r : Value} {A : Around} {E : Value → Shared → Prop}
theorem n_type (I : Inv X pins σ H s) (d : DNr X.prog X.w H a xs) : s.TypeIs (.ref a) "dict" ∧ (∀ b, Value.ref a = .ref b → ∃ ob, s.heap.get? b = some ob ∧ ob.dict = none) := by
  obtain ⟨vs, rv, o, es, ep, h1, h2, _⟩ := d.raw I.hok
  refine ⟨⟨o, h1, h2.1⟩, fun b q => ?_⟩
  cases q
  exact ⟨o, h1, h2.2.1⟩
theorem n_getItem {Q : Value → Shared → Prop} (hu : A.units + 64 < cLine) (I : Inv X pins σ H s) (d : DNr X.prog X.w H a xs) (hk : KeyV H k (.ref b)) (h8 : k.depth ≤ 8) (hv : valN xs k = some v)
    (h : ∀ w' s', Inv X pins σ H s' → RelV v w' → Q w' s') : wpAny (model X.prog X.w) A (getItem (.ref a) (.ref b)) Q E s := by
  obtain ⟨vs, rv, dd⟩ := d.of I.hok
  have q := rv.val k
  rw [hv] at q
  obtain ⟨w', hw, rw'⟩ := RelO.some_of (v := v) (o := (atKey vs k).map (·.2)) q
  obtain ⟨p, hp, hp2⟩ := Option.map_eq_some_iff.mp hw
  refine wpAny_getItem_heap (room1 hu) (key_is I.hok hk h8) dd hp ?_
  rw [hp2]
  exact h w' _ (I.tok _) rw'
theorem n_notIn {Q : Value → Shared → Prop} (hu : A.units + 64 < cLine) (I : Inv X pins σ H s) (d : DNr X.prog X.w H a xs) (hk : KeyV H k (.ref b)) (h8 : k.depth ≤ 8)
    (h : ∀ s', Inv X pins σ H s' → Q (.bool (!(valN xs k).isSome)) s') : wpAny (model X.prog X.w) A (compareOp .NotIn (.ref b) (.ref a)) Q E s := by
  obtain ⟨vs, rv, dd⟩ := d.of I.hok
  refine wpAny_notIn_heap (room1 hu) (key_is I.hok hk h8) d.1.sys dd ?_
  have q := (rv.val k).isSome_eq
  rw [Option.isSome_map] at q
  rw [← q]
  exact h _ (I.tok _)
theorem n_get2 {z : V} {Q : Value → Shared → Prop} (hu : A.units + 64 < cLine) (I : Inv X pins σ H s) (d : DNr X.prog X.w H a xs) (hk : KeyV H k (.ref b)) (h8 : k.depth ≤ 8) (rz : RelV z r)
    (h : ∀ w' s', Inv X pins σ H s' → RelV ((valN xs k).getD z) w' → Q w' s') : wpAny (model X.prog X.w) A (call (.builtin "dict.get") [.ref a, .ref b, r]) Q E s := by
  obtain ⟨vs, rv, dd⟩ := d.of I.hok
  refine call_meetsIn PySem.F.slot_dict_get dd.typeIs PySem.F.entry_dict_get (PySem.F.args_dict_get_3 _ _ _) (meetsH_dict_get_default (nestedKind X.prog X.w) a b d.1.sys r) ⟨room1 hu, k, vs, key_is I.hok hk h8, dd, h _ _ (I.tok _) ?_⟩
  exact (rv.val k).getD rz
/-- the dict behind a store -/
theorem n_stored {h' : Heap} {t' : Nat} {u : Value} (I : Inv X pins σ H s) (d : DN X.prog X.w H a xs) (hk : KeyV H k (.ref b)) (h8 : k.depth ≤ 8) (hl : xs.length < sizeLine) (ru : RelV v u)
    {vs : List (NestedKey × Addr × Value)} (rv : REn xs vs) (dd : h'.DictOfH (nestedKind X.prog X.w) a (storedH vs k b u)) (hs : Heap.SameBut a s.heap h') :
    Inv X pins σ (upd H a (nO X.prog X.w a (putN xs k b v))) { s with heap := h', toks := t' } ∧ DN X.prog X.w (upd H a (nO X.prog X.w a (putN xs k b v))) a (putN xs k b v) := by
  obtain ⟨o, es, ep, h1, h2, h3, h4, _, h5⟩ := dd
  have raw : RawN X.prog X.w a (putN xs k b v) h' := ⟨_, rv.put k b ru, o, es, ep, h1, h2, h3, h4, h5⟩
  refine ⟨d_write I (by rw [d.2]; exact True.intro) hs ⟨o, h1⟩ (nO_ok raw), ?_, upd_same⟩
  have ht : ∀ c ys, H c = some (.tup ys) → upd H a (nO X.prog X.w a (putN xs k b v)) c = some (.tup ys) := fun c ys e => by
    rw [upd_ne (ne_of e d.2 fun z => nomatch z)]
    exact e
  refine ⟨?_, d.1.sys, fun x hx => ?_⟩
  · have := len_putN xs k b v
    omega
  · unfold putN at hx
    split at hx
    · obtain ⟨y, hy, rfl⟩ := List.mem_map.mp hx
      obtain ⟨k1, k2⟩ := d.1.key y hy
      have k3 := KeyV.keep ht _ _ k1
      split <;> exact ⟨k3, k2⟩
    · rcases List.mem_append.mp hx with m | m
      · obtain ⟨k1, k2⟩ := d.1.key x m
        exact ⟨KeyV.keep ht _ _ k1, k2⟩
      · have e : x = (k, b, v) := by simpa using m
        subst e
        exact ⟨KeyV.keep ht _ _ hk, h8⟩
theorem n_setItem {Q : Unit → Shared → Prop} (hu : A.units + 64 < cLine) (I : Inv X pins σ H s) (d : DN X.prog X.w H a xs) (hk : KeyV H k (.ref b)) (h8 : k.depth ≤ 8) (hl : xs.length < sizeLine) {u : Value} (ru : RelV v u)
    (h : ∀ s', Inv X pins σ (upd H a (nO X.prog X.w a (putN xs k b v))) s' → DN X.prog X.w (upd H a (nO X.prog X.w a (putN xs k b v))) a (putN xs k b v) → Q () s') :
    wpAny (model X.prog X.w) A (setItem (.ref a) (.ref b) u) Q E s := by
  obtain ⟨vs, rv, dd⟩ := d.r.of I.hok
  have hz : vs.length ≤ sizeLine := by
    rw [← Paired.length rv]
    exact d.1.len
  refine wpAny_setItem_heap (hsz := hz) (room1 hu) (key_is I.hok hk h8) dd fun h' dd' hs => ?_
  obtain ⟨I', d'⟩ := n_stored I d hk h8 hl ru rv dd' hs
  exact h _ I' d'
theorem n_setd {z : V} {Q : Value → Shared → Prop} (hu : A.units + 64 < cLine) (I : Inv X pins σ H s) (d : DN X.prog X.w H a xs) (hk : KeyV H k (.ref b)) (h8 : k.depth ≤ 8) (hl : xs.length < sizeLine) (rz : RelV z r)
    (h1 : ∀ v, valN xs k = some v → ∀ w' s', Inv X pins σ H s' → RelV v w' → Q w' s')
    (h2 : valN xs k = none → ∀ w' s', Inv X pins σ (upd H a (nO X.prog X.w a (putN xs k b z))) s' → DN X.prog X.w (upd H a (nO X.prog X.w a (putN xs k b z))) a (putN xs k b z) → RelV z w' → Q w' s') :
    wpAny (model X.prog X.w) A (call (.builtin "dict.setdefault") [.ref a, .ref b, r]) Q E s := by
  obtain ⟨vs, rv, dd⟩ := d.r.of I.hok
  have hz : vs.length ≤ sizeLine := by
    rw [← Paired.length rv]
    exact d.1.len
  refine call_setdefault_heap (hsz := hz) (room1 hu) (key_is I.hok hk h8) d.1.sys dd (fun p hp => ?_) fun hn h' dd' hs => ?_
  · have q := rv.val k
    rw [hp] at q
    cases q0 : valN xs k with
    | none =>
      rw [q0] at q
      exact (show False from q).elim
    | some v0 =>
      rw [q0] at q
      exact h1 v0 q0 _ _ (I.tok _) q
  · have q := rv.val k
    rw [hn] at q
    cases q0 : valN xs k with
    | some v0 =>
      rw [q0] at q
      exact (show False from q).elim
    | none =>
      obtain ⟨I', d'⟩ := n_stored I d hk h8 hl rz rv dd' hs
      exact h2 q0 _ _ I' d' rz
end

/-! ### rules -/
section
variable {X : Cx} {o i e f value : Expr} {pos pos' tpos apos cpos : Pos} {td ty tx tv : TE}
def tNGet (P : Program) (w : World) (td ty : TE) : TE := fun σ H Q => td σ H fun x H1 => ty σ H1 fun y H2 => ∃ a b xs k v, x = .ref a ∧ y = .ref b ∧ DNr P w H2 a xs ∧ KeyV H2 k (.ref b) ∧ k.depth ≤ 8 ∧ valN xs k = some v ∧ Q v H2
theorem pe_nget (hu : X.A.units + 64 < cLine) (ho : PE X o td) (hi : PE X i ty) (hs : NoSl i) : PE X (.Subscript o i pos) (tNGet X.prog X.w td ty) := by
  constructor
  intro pins s σ H Q I h
  refine subD_of PySem.F.slot_dict_getitem.lookup hs (thn (ho.run pins s σ H _ I h) fun u s1 ⟨x, H1, I1, rx, q1⟩ => thn (hi.run pins s1 σ H1 _ I1 q1) fun iv s2 ⟨y, H2, I2, ry, a, b, xs, k, v, ex, ey, d, hk, h8, hv, q2⟩ => ?_)
  subst ex ey
  obtain rfl : u = Value.ref a := rx
  obtain rfl : iv = Value.ref b := ry
  exact ⟨(n_type I2 d).1, n_getItem hu I2 d hk h8 hv fun w' s3 I3 rw' => ⟨v, H2, I3, rw', q2⟩⟩
def tNNotIn (P : Program) (w : World) (ty td : TE) : TE := fun σ H Q => ty σ H fun y H1 => td σ H1 fun x H2 => ∃ a b xs k, x = .ref a ∧ y = .ref b ∧ DNr P w H2 a xs ∧ KeyV H2 k (.ref b) ∧ k.depth ≤ 8 ∧ Q (.bl (!(valN xs k).isSome)) H2
theorem pc_nnotin (hu : X.A.units + 64 < cLine) (hi : PE X i ty) (ho : PE X o td) : PC X .NotIn i o (tNNotIn X.prog X.w ty td) := by
  constructor
  intro pins s σ H Q I h
  refine thn (hi.run pins s σ H _ I h) fun iv s1 ⟨y, H1, I1, ry, q1⟩ => thn (ho.run pins s1 σ H1 _ I1 q1) fun u s2 ⟨x, H2, I2, rx, a, b, xs, k, ex, ey, d, hk, h8, q2⟩ => ?_
  subst ex ey
  obtain rfl : u = Value.ref a := rx
  obtain rfl : iv = Value.ref b := ry
  exact n_notIn hu I2 d hk h8 fun s3 I3 => ⟨.bl _, H2, I3, rfl, q2⟩
def sNPut (P : Program) (w : World) (td ty tv : TE) : TS := fun D σ H => tv σ H fun v H1 => td σ H1 fun x H2 => ty σ H2 fun y H3 => ∃ a b xs k, x = .ref a ∧ y = .ref b ∧ DN P w H3 a xs ∧ KeyV H3 k (.ref b) ∧ k.depth ≤ 8 ∧ xs.length < sizeLine ∧
  (DN P w (upd H3 a (nO P w a (putN xs k b v))) a (putN xs k b v) → D.nx σ (upd H3 a (nO P w a (putN xs k b v))))
theorem ps_nput (hu : X.A.units + 64 < cLine) (ho : PE X o td) (hi : PE X i ty) (hv : PE X value tv) (hs : swapsWith value (some (.Subscript o i pos')) pos.line X.env = pure false) :
    PS X (.Assign [.Subscript o i pos'] value pos) (sNPut X.prog X.w td ty tv) := by
  constructor
  intro pins s σ H D I h
  refine wpAny_Assign_Subscript (thn (hv.run pins s σ H _ I h) fun r s1 ⟨v, H1, I1, rv, q1⟩ => thn (ho.run pins s1 σ H1 _ I1 q1) fun u s2 ⟨x, H2, I2, rx, q2⟩ => thn (hi.run pins s2 σ H2 _ I2 q2) fun iv s3 ⟨y, H3, I3, ry, a, b, xs, k, ex, ey, d, hk, h8, hl, q3⟩ => ?_) hs
  subst ex ey
  obtain rfl : u = Value.ref a := rx
  obtain rfl : iv = Value.ref b := ry
  exact n_setItem hu I3 d hk h8 hl rv fun s4 I4 d4 => ⟨σ, _, I4, q3 d4⟩
def tNGet2 (P : Program) (w : World) (td ty tx : TE) : TE := fun σ H Q => td σ H fun x H1 => ∃ a, x = .ref a ∧ (∃ xs, DNr P w H1 a xs) ∧ ty σ H1 fun y H2 => tx σ H2 fun z H3 => ∃ b xs k, y = .ref b ∧ DNr P w H3 a xs ∧ KeyV H3 k (.ref b) ∧ k.depth ≤ 8 ∧ Q ((valN xs k).getD z) H3
theorem pe_nget2 (hu : X.A.units + 64 < cLine) (ho : PE X o td) (he : PE X e ty) (hf : PE X f tx) (m : M2 X o "get" apos e f cpos) : PE X (.Call (.Attribute o "get" apos) [e, f] [] cpos) (tNGet2 X.prog X.w td ty tx) := by
  constructor
  intro pins s σ H Q I h
  refine wpAny_Call_method m.base m.few m.line PySem.F.plainAttrs_dict PySem.F.slot_dict_get PySem.F.type_dict_get (thn (ho.run pins s σ H _ I h) fun u s1 ⟨x, H1, I1, rx, a, ex, ⟨xs0, d0⟩, q1⟩ => ?_)
  subst ex
  obtain rfl : u = Value.ref a := rx
  obtain ⟨t1, t2⟩ := n_type I1 d0
  refine ⟨t1, t2, ?_⟩
  rw [m.trees]
  refine Calls.callWith_builtin rfl (Calls.evalArgs_plain (Calls.spliced_cons (thn (he.run pins s1 σ H1 _ I1 q1) fun iv s2 ⟨y, H2, I2, ry, q2⟩ =>
    Calls.spliced_cons (thn (hf.run pins s2 σ H2 _ I2 q2) fun fv s3 ⟨z, H3, I3, rz, b, xs, k, ey, d, hk, h8, q3⟩ => Calls.spliced_nil ?_))))
  subst ey
  obtain rfl : iv = Value.ref b := ry
  exact n_get2 hu I3 d hk h8 rz fun w' s4 I4 rw' => ⟨_, H3, I4, rw', q3⟩
/-- what setdefault leaves, both ways -/
def SetdQ (P : Program) (w : World) (H : Hp) (a b : Addr) (xs : List En) (k : NestedKey) (z : V) (Q : VK) : Prop :=
  (∀ v, valN xs k = some v → Q v H) ∧ (valN xs k = none → DN P w (upd H a (nO P w a (putN xs k b z))) a (putN xs k b z) → Q z (upd H a (nO P w a (putN xs k b z))))
def tNSetd (P : Program) (w : World) (td ty tx : TE) : TE := fun σ H Q => td σ H fun x H1 => ∃ a, x = .ref a ∧ (∃ xs, DNr P w H1 a xs) ∧ ty σ H1 fun y H2 => tx σ H2 fun z H3 => ∃ b xs k, y = .ref b ∧ DN P w H3 a xs ∧ KeyV H3 k (.ref b) ∧ k.depth ≤ 8 ∧ xs.length < sizeLine ∧ SetdQ P w H3 a b xs k z Q
theorem pe_nsetd (hu : X.A.units + 64 < cLine) (ho : PE X o td) (he : PE X e ty) (hf : PE X f tx) (m : M2 X o "setdefault" apos e f cpos) : PE X (.Call (.Attribute o "setdefault" apos) [e, f] [] cpos) (tNSetd X.prog X.w td ty tx) := by
  constructor
  intro pins s σ H Q I h
  refine wpAny_Call_method m.base m.few m.line PySem.F.plainAttrs_dict PySem.F.slot_dict_setdefault PySem.F.type_dict_setdefault (thn (ho.run pins s σ H _ I h) fun u s1 ⟨x, H1, I1, rx, a, ex, ⟨xs0, d0⟩, q1⟩ => ?_)
  subst ex
  obtain rfl : u = Value.ref a := rx
  obtain ⟨t1, t2⟩ := n_type I1 d0
  refine ⟨t1, t2, ?_⟩
  rw [m.trees]
  refine Calls.callWith_builtin rfl (Calls.evalArgs_plain (Calls.spliced_cons (thn (he.run pins s1 σ H1 _ I1 q1) fun iv s2 ⟨y, H2, I2, ry, q2⟩ =>
    Calls.spliced_cons (thn (hf.run pins s2 σ H2 _ I2 q2) fun fv s3 ⟨z, H3, I3, rz, b, xs, k, ey, d, hk, h8, hl, q3, q4⟩ => Calls.spliced_nil ?_))))
  subst ey
  obtain rfl : iv = Value.ref b := ry
  exact n_setd hu I3 d hk h8 hl rz (fun v hv w' s4 I4 rw' => ⟨v, _, I4, rw', q3 v hv⟩) fun hn w' s4 I4 d4 rw' => ⟨z, _, I4, rw', q4 hn d4⟩
end
/-! ### {} and {key: value} -/
theorem nO_empty {P : Program} {w : World} {H : Hp} (h : Heap) : ObjOk P w H (h.push { cls := .type "dict", data := .dict #[] }) h.objs.size (nO P w h.objs.size []) :=
  nO_ok ⟨[], .nil, _, #[], 0, Heap.get?_push_size _ rfl, ⟨rfl, rfl, rfl⟩, rfl, rfl, List.nodup_nil⟩
theorem ens_nil {H : Hp} {p : Addr} (h : sysModules < p) : Ens H p [] := ⟨Nat.zero_le _, beq_eq_false_iff_ne.mpr (Ne.symm (Nat.ne_of_lt h)), fun _ m => (nomatch m)⟩
def tNNew (P : Program) (w : World) : TE := fun _ H Q => ∀ p, H p = none → DN P w (upd H p (nO P w p [])) p [] → Q (.ref p) (upd H p (nO P w p []))
section
variable {X : Cx} {pos : Pos}
theorem pe_nnew : PE X (.Dict [] [] pos) (tNNew X.prog X.w) := by
  constructor
  intro pins s σ H Q I h
  exact wpAny_Dict_empty ⟨.ref s.heap.objs.size, _, I.laid (a := s.heap.objs.size) (o := nO X.prog X.w s.heap.objs.size []) (t' := s.toks) (fun _ _ q => Heap.get?_push_of_some _ q) (Nat.le_refl _) (nO_empty s.heap), rfl,
    h _ (I.hok.fresh (Nat.le_refl _)) ⟨ens_nil I.big, upd_same⟩⟩
end
/-! ### walks -/
section
variable {X : Cx} {pins : List (Addr × Obj)} {σ : St} {H : Hp} {s : Shared} {d : Addr} {o : Obj} {xs : List En}
theorem n_frz (I : Inv X pins σ H s) (h : H d = some (.frz o (nO X.prog X.w d xs))) : s.heap.get? d = some o ∧ o.ExactDict ∧ ∃ (es : Array DictEntry) (ep : Nat), o.data = .dict es ep ∧ es.size = xs.length ∧
    ∀ (i : Nat) (x : En), xs[i]? = some x → ∃ en : DictEntry, es[i]? = some en ∧ en.key = .ref x.2.1 ∧ RelV x.2.2 en.val := by
  obtain ⟨hd, raw, _⟩ := I.hok d _ h
  obtain ⟨vs, rv, o', es, ep, ho, hx, hdt, he, _⟩ := raw
  rw [hd] at ho
  cases ho
  refine ⟨hd, hx, es, ep, hdt, ?_, fun i x e => ?_⟩
  · have l1 : es.size = vs.length := size_of_entries he
    have l2 := Paired.length rv
    omega
  · obtain ⟨q, hq, e1, e2, e3⟩ := rv.get e
    have z := entry_at he i
    rw [hq] at z
    exact ⟨_, z, by rw [e2]; rfl, e3⟩
end
/-- the keys' own tuples -/
def Itn (P : Program) (w : World) (d : Addr) (o : Obj) (xs : List En) : It :=
  ⟨fun i H => H d = some (.frz o (nO P w d xs)) ∧ i < xs.length, fun i H x H' => H' = H ∧ ∃ e, xs[i]? = some e ∧ x = .ref e.2.1, fun i H => H d = some (.frz o (nO P w d xs)) ∧ xs.length ≤ i⟩
/-- the pairs, each a new tuple -/
def Itni (P : Program) (w : World) (d : Addr) (o : Obj) (xs : List En) : It :=
  ⟨fun i H => H d = some (.frz o (nO P w d xs)) ∧ i < xs.length, fun i H x H' => ∃ T e, xs[i]? = some e ∧ x = .ref T ∧ H T = none ∧ H' = upd H T (.tup [.ref e.2.1, e.2.2]), fun i H => H d = some (.frz o (nO P w d xs)) ∧ xs.length ≤ i⟩
section
variable {P : Program} {w : World} {K : PySem.W.Frag} {tg : Expr} {d : Addr} {o : Obj} {es : Array DictEntry} {ep : Nat} {xs : List En}
theorem turn_n (it : Addr) (hod : o.data = .dict es ep) : Turn P w K tg (Itn P w d o xs) [it] it (fun i h => h.IsKeyIter it d i xs.length ep) where
  mem := by simp
  obj := fun i h st b hb => by
    have e : b = it := by simpa using hb
    subst e
    obtain ⟨oi, e, c, dd⟩ := st
    exact ⟨oi, e, fun v z => by rw [dd] at z; cases z⟩
  keep := fun i h h' st k => st.at fun oi e => k it (by simp) oi e
  item := by
    intro X hP hw hK hc i pins s σ H E I hf st hg
    subst hP hw hK
    obtain ⟨hd, hi⟩ := hg
    obtain ⟨f0, f1, f2, f3, f4, f5⟩ := hf it (by simp)
    obtain ⟨hgd, hx, es', ep', hdt, hsz, ent⟩ := n_frz I hd
    obtain ⟨rfl, rfl⟩ := dict_ep hod hdt
    obtain ⟨x, hx'⟩ : ∃ x, xs[i]? = some x := ⟨xs[i], List.getElem?_eq_getElem hi⟩
    obtain ⟨en, hen, hkey, _⟩ := ent i x hx'
    refine next_key_item st hgd hdt hsz hen fun h' st' sb => ?_
    have I1 : Inv X pins σ H { s with heap := h' } := I.turned (t' := s.toks) (fun b ob hb e => (sb.2 b hb).trans e) f0 f1 f3 f4 f5
    obtain ⟨oi, e, c, dd⟩ := id st'
    exact ⟨en.key, rfl, go_of (s := { s with heap := h' }) e c dd (by decide) ⟨.ref x.2.1, H, I1, hkey, ⟨rfl, x, hx', rfl⟩, st', fun b hb => (hf b hb).1⟩⟩
  done := by
    intro X hP hw hK hc i pins s σ H E I hf st hg
    subst hP hw hK
    obtain ⟨hd, hi⟩ := hg
    obtain ⟨f0, f1, f2, f3, f4, f5⟩ := hf it (by simp)
    obtain ⟨hgd, hx, es', ep', hdt, hsz, ent⟩ := n_frz I hd
    obtain ⟨rfl, rfl⟩ := dict_ep hod hdt
    exact next_key_end (I.ok.hd hc) st hgd hdt hsz hi fun h' eb => ⟨rfl, I.turned (t' := s.toks) (fun b o hb e => eb b o hb e) f0 f1 f3 f4 f5⟩
  self := fun A i s Q E st h => by
    refine wpAny_pyIter_slot st.typeIs PySem.F.slot_dict_keyiterator_iter (wpAny_call_entry PySem.F.slot_dict_keyiterator_iter st.typeIs PySem.F.entry_dict_keyiterator_iter ?_ (PySem.F.args_dict_keyiterator_iter_1 _))
    show wpAny _ _ (ret (.ref it)) _ _ s
    exact wpAny_pure ⟨_, rfl, "dict_keyiterator", _, st.typeIs, PySem.F.slot_dict_keyiterator_next.lookup, h⟩
theorem turn_ni {elts : List Expr} {kk : Nat} {tpos : Pos} (it : Addr) (hod : o.data = .dict es ep) :
    Turn P w K (.Tuple elts kk tpos) (Itni P w d o xs) [it] it (fun i h => ∃ ok ov, IsItemIter h it d i xs.length ep ok ov) where
  mem := by simp
  obj := fun i h st b hb => by
    have e : b = it := by simpa using hb
    subst e
    obtain ⟨ok, ov, e⟩ := st
    exact ⟨_, e, fun v z => nomatch z⟩
  keep := fun i h h' st k => let ⟨ok, ov, e⟩ := st; ⟨ok, ov, k it (by simp) _ e⟩
  item := by
    intro X hP hw hK hc i pins s σ H E I hf st hg
    subst hP hw hK
    obtain ⟨hd, hi⟩ := hg
    obtain ⟨hgd, hx, es', ep', hdt, hsz, ent⟩ := n_frz I hd
    obtain ⟨rfl, rfl⟩ := dict_ep hod hdt
    obtain ⟨x, hx'⟩ : ∃ x, xs[i]? = some x := ⟨xs[i], List.getElem?_eq_getElem hi⟩
    obtain ⟨en, hen, hkey, hval⟩ := ent i x hx'
    obtain ⟨ok, ov, he⟩ := st
    rw [← hsz] at he
    have hlt : it < s.heap.objs.size := Heap.lt_size he
    have hi' : i < es'.size := by rw [hsz]; exact hi
    have een : es'[i] = en := by
      rw [Array.getElem?_eq_getElem hi'] at hen
      exact Option.some.inj hen
    refine wpAny_pyNext_items_item_raw he ⟨o, hgd, hx, hod⟩ hi' fun h' ho hT hz hk => ?_
    rw [een, hkey] at hT
    refine ⟨_, rfl, wpAny_letOwnedTupleGo_items (s := { s with heap := h' }) ho fun h'' he' sb => ?_⟩
    have hT2 : h''.get? s.heap.objs.size = some { cls := .type "tuple", data := .seq #[.ref x.2.1, en.val] } := (sb.2 _ (Nat.ne_of_gt hlt)).trans hT
    have new : ObjOk X.prog X.w (upd H s.heap.objs.size (.tup [.ref x.2.1, x.2.2])) h'' s.heap.objs.size (.tup [.ref x.2.1, x.2.2]) :=
      ⟨by show 2 ≤ sizeLine; decide, [.ref x.2.1, en.val], .cons rfl (.cons hval .nil), ⟨_, hT2, rfl, _, rfl⟩⟩
    have I1 : Inv X pins σ (upd H s.heap.objs.size (.tup [.ref x.2.1, x.2.2])) { s with heap := h'' } :=
      I.turnedNew (t' := s.toks) (ch := [it]) (fun b ob hb e => (sb.2 b (by simpa using hb)).trans (hk b ob (by simpa using hb) e)) hf (Nat.le_refl _) new
    refine ⟨.ref s.heap.objs.size, _, I1, rfl, ⟨_, x, hx', rfl, I.hok.fresh (Nat.le_refl _), rfl⟩, ⟨es'[i].key, es'[i].val, ?_⟩, fun b hb => ?_⟩
    · rw [← hsz]
      exact he'
    · have e : b = it := by simpa using hb
      rw [e, upd_ne (Nat.ne_of_lt hlt)]
      exact (hf it (by simp)).1
  done := by
    intro X hP hw hK hc i pins s σ H E I hf st hg
    subst hP hw hK
    obtain ⟨hd, hi⟩ := hg
    obtain ⟨f0, f1, f2, f3, f4, f5⟩ := hf it (by simp)
    obtain ⟨hgd, hx, es', ep', hdt, hsz, ent⟩ := n_frz I hd
    obtain ⟨rfl, rfl⟩ := dict_ep hod hdt
    obtain ⟨ok, ov, he⟩ := st
    rw [← hsz] at he
    exact wpAny_pyNext_items_end_raw (I.ok.hd hc) he ⟨o, hgd, hx, hod⟩ (by rw [hsz]; exact hi) fun h' eb => ⟨rfl, I.turned (t' := s.toks) (fun b o hb e => eb b o hb e) f0 f1 f3 f4 f5⟩
  self := fun A i s Q E st h => let ⟨_, _, e⟩ := st; PySem.W.kcp_self e h
end
def iNKeys (P : Program) (w : World) (td : TE) : TI := fun σ H R => td σ H fun x H1 => ∃ d o xs, x = .ref d ∧ (d == sysModules) = false ∧ H1 d = some (.frz o (nO P w d xs)) ∧ R (Itn P w d o xs) H1
def iNItems (P : Program) (w : World) (td : TE) : TI := fun σ H R => td σ H fun x H1 => ∃ d o xs, x = .ref d ∧ (d == sysModules) = false ∧ H1 d = some (.frz o (nO P w d xs)) ∧ R (Itni P w d o xs) H1
section
variable {X : Cx} {tg e : Expr} {td : TE} {apos cpos : Pos}
theorem pi_nkeys (he : PE X e td) : PI X tg e (iNKeys X.prog X.w td) := by
  constructor
  intro pins s σ H R I h
  refine thn (he.run pins s σ H _ I h) fun u s1 ⟨x, H1, I1, rx, d, o, xs, ex, hs, hd, q⟩ => ?_
  subst ex
  obtain rfl : u = Value.ref d := rx
  obtain ⟨hgd, hx, es, ep, hdt, hsz, ent⟩ := n_frz I1 hd
  refine iter_keys hs hgd hx hdt (pi_one (tk := s1.toks) I1 _ (turn_n _ hdt) ⟨_, Heap.get?_push_size _ rfl, rfl, ?_⟩ q)
  rw [hsz] <;> rfl
theorem pi_nitems {elts : List Expr} {kk : Nat} {tpos : Pos} (he : PE X e td) (hbase : attributeBase e "items" X.env (eval e X.env) = eval e X.env := by rfl) (hline : (apos.endLine == cpos.line) = true := by rfl) :
    PI X (.Tuple elts kk tpos) (.Call (.Attribute e "items" apos) [] [] cpos) (iNItems X.prog X.w td) := by
  constructor
  intro pins s σ H R I h
  refine wpAny_Call_method (T := "dict") (id := "dict.items") hbase rfl hline PySem.F.plainAttrs_dict PySem.F.slot_dict_items PySem.F.type_dict_items (thn (he.run pins s σ H _ I h) fun u s1 ⟨x, H1, I1, rx, d, o, xs, ex, hs, hd, q⟩ => ?_)
  subst ex
  obtain rfl : u = Value.ref d := rx
  obtain ⟨hgd, hx, es, ep, hdt, hsz, ent⟩ := n_frz I1 hd
  have hT : s1.TypeIs (.ref d) "dict" := ⟨o, hgd, hx.1⟩
  refine ⟨hT, fun b q => by cases q; exact ⟨o, hgd, hx.2.1⟩, ?_⟩
  have I2 : Inv X pins σ H1 { s1 with heap := s1.heap.push { cls := .type "dict_items", data := .fields #[.ref d] } } := I1.kept (t' := s1.toks) fun b ob q => Heap.get?_push_of_some _ q
  have raw : (s1.heap.push { cls := .type "dict_items", data := .fields #[.ref d] }).DictRaw d es ep := ⟨o, Heap.get?_push_of_some _ hgd, hx, hdt⟩
  have fin : wpAny (model X.prog X.w) X.A (pyIter (.ref s1.heap.objs.size)) (PIE X pins σ (.Tuple elts kk tpos) R) X.xe { s1 with heap := s1.heap.push { cls := .type "dict_items", data := .fields #[.ref d] } } := by
    refine wpAny_pyIter_items_raw (d := d) ⟨_, Heap.get?_push_size _ rfl, rfl, rfl⟩ raw (pi_one (tk := s1.toks) I2 _ (turn_ni _ hdt) ⟨.none, .none, ?_⟩ q)
    rw [← hsz]
    exact Heap.get?_push_size _ rfl
  show wpAny _ _ (callWith cpos (.builtin "dict.items") [.ref d] [] []) _ X.xe s1
  exact method_meetsIn PySem.F.slot_dict_items PySem.F.entry_dict_items rfl (PySem.evalArgs_none ⟨rfl, hT, PySem.F.args_dict_items_1 _, _, meets_dict_items_raw d hs, ⟨es, ep, ⟨o, hgd, hx, hdt⟩⟩, fin⟩)
end
section
variable {P : Program} {w : World} {d : Addr} {o : Obj} {xs : List En}
theorem walk_n : Walk (Itn P w d o xs) xs.length (fun H => H d = some (.frz o (nO P w d xs))) (fun i H x H' => H' = H ∧ ∃ e, xs[i]? = some e ∧ x = .ref e.2.1) :=
  ⟨fun _ _ hi h => ⟨h, hi⟩, fun _ h => ⟨h, Nat.le_refl _⟩, fun _ _ _ _ _ _ y => y⟩
theorem walk_ni : Walk (Itni P w d o xs) xs.length (fun H => H d = some (.frz o (nO P w d xs))) (fun i H x H' => ∃ T e, xs[i]? = some e ∧ x = .ref T ∧ H T = none ∧ H' = upd H T (.tup [.ref e.2.1, e.2.2])) :=
  ⟨fun _ _ hi h => ⟨h, hi⟩, fun _ h => ⟨h, Nat.le_refl _⟩, fun _ _ _ _ _ _ y => y⟩
end
/-! ### {key: value} with one pair -/
def tNDisp1 (P : Program) (w : World) (tk tv : TE) : TE := fun σ H Q => ∀ p, H p = none → tk σ (upd H p (nO P w p [])) fun x H1 => tv σ H1 fun y H2 => ∃ b kk, x = .ref b ∧ H2 p = some (nO P w p []) ∧ KeyV H2 kk (.ref b) ∧ kk.depth ≤ 8 ∧
  (DN P w (upd H2 p (nO P w p [(kk, b, y)])) p [(kk, b, y)] → Q (.ref p) (upd H2 p (nO P w p [(kk, b, y)])))
theorem pe_ndisp1 {X : Cx} {k v : Expr} {pos : Pos} {tk tv : TE} (hu : X.A.units + 64 < cLine) (hk : PE X k tk) (hv : PE X v tv) : PE X (.Dict [some k] [v] pos) (tNDisp1 X.prog X.w tk tv) := by
  constructor
  intro pins s σ H Q I q
  have hn := I.hok.fresh (Nat.le_refl s.heap.objs.size)
  have big := I.big
  have I1 := I.laid (a := s.heap.objs.size) (o := nO X.prog X.w s.heap.objs.size []) (h' := s.heap.push { cls := .type "dict", data := .dict #[] }) (t' := s.toks) (fun _ _ q => Heap.get?_push_of_some _ q) (Nat.le_refl _) (nO_empty s.heap)
  have len1 : (pairTrees [some k] [v] X.env pos).length = 1 := pairTrees_length [some k] [v] X.env pos rfl rfl
  rw [arm_eval_Dict, zip_pairTrees [some k] [v] X.env pos rfl rfl, dictDisplay_pairs _ (fun e => by rw [e] at len1; cases len1) (by rw [len1]; omega)]
  refine wpAny_bind (wpAny_standAt (wpAny_bind (wpAny_subDictH (knd := nestedKind X.prog X.w) (Q := fun d s' => wpAny (model X.prog X.w) X.A (pure (Value.ref d)) (EP X pins σ Q) X.xe s') (by show X.A.units + 8 < cLine; omega) (by rw [len1]; omega)
    (pairTrees_cons_walk (thn (hk.run pins _ σ _ _ I1 (q _ hn)) fun u s1 ⟨x, H1, I2, rx, q1⟩ => thn (hv.run pins s1 σ H1 _ I2 q1) fun w2 s2 ⟨y, H2, I3, ry, b, kk, ex, hp, hkv, h8, q2⟩ => pairTrees_nil_walk ?_)))))
  subst ex
  obtain rfl : u = Value.ref b := rx
  have dnr : DNr X.prog X.w H2 s.heap.objs.size [] := ⟨ens_nil big, .inl hp⟩
  obtain ⟨vs0, rv0, dd⟩ := dnr.of I3.hok
  cases rv0
  refine ⟨[(kk, b, w2)], ⟨rfl, rfl, key_is I3.hok hkv h8, trivial⟩, dd, fun h' tk hd' hs => wpAny_pure ?_⟩
  obtain ⟨I', d'⟩ := n_stored (xs := []) (v := y) (t' := tk) I3 ⟨ens_nil big, hp⟩ hkv h8 (by rw [sizeLine_eq]; decide) ry (vs := []) .nil hd' hs
  exact ⟨.ref s.heap.objs.size, _, I', rfl, q2 d'⟩
/-! ### for k, v in f(..).items(): the dict is locked from then on -/
def iNItemsL (P : Program) (w : World) (td : TE) : TI := fun σ H R => td σ H fun x H1 => ∃ d xs, x = .ref d ∧ DN P w H1 d xs ∧ ∀ o, R (Itni P w d o xs) (upd H1 d (.frz o (nO P w d xs)))
/-- an expression whose dict is locked when it is told -/
theorem pe_locked {X : Cx} {e : Expr} {td : TE} (he : PE X e td) : PE X e (fun σ H Q => td σ H fun x H1 => ∃ d xs, x = .ref d ∧ DN X.prog X.w H1 d xs ∧ ∀ o, Q (.ref d) (upd H1 d (.frz o (nO X.prog X.w d xs)))) := by
  constructor
  intro pins s σ H Q I h
  refine thn (he.run pins s σ H _ I h) fun u s1 ⟨x, H1, I1, rx, d, xs, ex, hd, q⟩ => ?_
  subst ex
  obtain rfl : u = Value.ref d := rx
  obtain ⟨od, I2⟩ := I1.lock hd.2 True.intro
  exact ⟨.ref d, _, I2, rfl, q od⟩
end KN

set_option Elab.async false
set_option linter.all false
set_option maxRecDepth 100000
set_option maxHeartbeats 4000000
/-! KSort: sorted of a dict of whole numbers, however many. -/
namespace KN
open PySem PySem.Spec L2
open PyProof.Rows hiding St
section
variable {X : Cx}
def rSortD : List V → Hp → VK → Prop := fun xs H Q => ∃ (a : Addr) (kvs : List (Key × V)) (ks : List Int), xs = [.ref a] ∧ Rd H a (.dK kvs) ∧ kvs.map (·.1) = ks.map Sum.inl ∧
  ∀ (ys : List Int) (p : Addr), ys.Perm ks → ys.Pairwise (· ≤ ·) → H p = none → Q (.ref p) (upd H p (.lst (ys.map V.int)))
theorem cr_sortD (hcalm : X.calm = true) : CallR X (.builtin "sorted") rSortD := by
  intro pins s σ H xs us Q I r q
  obtain ⟨a, kvs, ks, ex, hd, hks, q⟩ := q
  subst ex
  obtain ⟨u, eu, rx⟩ := vals1 r
  subst eu
  cases rx
  obtain ⟨z, lo, vs, rel, dd⟩ := dk_rd I.hok hd
  obtain ⟨ep, hat⟩ := dd.dictAt
  have hkeys : vs.map (·.1) = ks.map Sum.inl := rel.keys.symm.trans hks
  have hl : vs.length = ks.length := by
    have e := congrArg List.length hkeys
    rw [List.length_map, List.length_map] at e
    exact e
  have h16 : vs.length ≤ sizeLine := by
    rw [← rel.length]
    exact z
  refine Calls.call_function_entry PyProof.Rows.kind_sorted PyProof.Rows.plain_sorted PyProof.Rows.entry_sorted (PyProof.Rows.args_sorted1 _) ?_
  unfold Builtin.«sorted»
  refine wpAny_bind (m := checkCount "sorted" 1 1 _) (wpAny_pure ?_)
  refine wpAny_bind (PySem.W.kdu_collect (A := X.A.in1) (PySem.W.kdl_dict (knd := mixKind X.prog X.w) (kvs := vs) (ep := ep) lo) (I.ok.hd hcalm) hat h16 fun h' tk acc hk hacc => ?_)
  have hal : acc.toList.length = ks.length := by rw [Array.length_toList, hacc.1, hl]
  have hS : IntsAre acc.toList ks := ints_each hal fun j v e => by
    obtain ⟨k, x, e1, e2⟩ := hacc.2 j v (by rw [← Array.getElem?_toList]; exact e)
    have e3 : (vs.map (·.1))[j]? = some k := by
      rw [List.getElem?_map, e1]
      rfl
    rw [hkeys, List.getElem?_map] at e3
    cases e4 : ks[j]? with
    | none =>
      rw [e4] at e3
      cases e3
    | some y =>
      rw [e4] at e3
      have e5 : Sum.inl y = k := Option.some.inj e3
      subst e5
      rcases keyIs_shape (show keyIs (Sum.inl y) v = true from e2) with ⟨i, t, ek, ev⟩ | ⟨z, t, ek, ev⟩
      · cases ek
        exact ⟨y, t, rfl, ev⟩
      · cases ek
  have I1 : Inv X pins σ H { s with heap := h', toks := tk } := I.kept hk
  have hz : acc.toList.length ≤ sizeLine := by
    rw [hal, ← hl]
    exact h16
  refine wpAny_bind (wpAny_newList ?_ hz)
  have hoL : (h'.push (seqObj "list" acc.toList.toArray 0)).get? h'.objs.size = some (seqObj "list" acc.toList.toArray 0) := Heap.get?_push_size _ rfl
  show wpAny _ _ _ _ _ { s with heap := h'.push (seqObj "list" acc.toList.toArray 0), toks := tk }
  refine wpAny_bind (wpAny_holding (wpAny_call_entry PyProof.Rows.slot_list_sort ⟨_, hoL, rfl⟩ PyProof.Rows.entry_list_sort
    (SrtO.list_sort_ord (s := { s with heap := h'.push (seqObj "list" acc.toList.toArray 0), toks := tk }) SrtO.swo_int hoL hz (fun h2 => SrtO.ints_sortable hS h2) fun out g1 g2 => ⟨_, rfl, ?_⟩) (PyProof.Rows.args_list_sort _)))
  obtain ⟨k1, k2, k3⟩ := SrtO.ints_out hS g1 g2
  obtain ⟨e', he'⟩ := PyProof.Rows.sortedHeap_at (vs := acc.toList) (out := out.toArray) hoL
  have hlen : ((out.map SrtO.iv).map V.int).length ≤ sizeLine := by
    rw [List.length_map, k2.length_eq, ← hal]
    exact hz
  refine wpAny_pure ⟨_, rfl, .ref h'.objs.size, upd H h'.objs.size (.lst ((out.map SrtO.iv).map V.int)), I1.laid (t' := tk) (fun b u e => ?_) (Nat.le_refl _)
    (show ObjOk X.prog X.w _ _ _ (.lst ((out.map SrtO.iv).map V.int)) from ⟨hlen, out, e', vals_of_ints k1, he'⟩), rfl, q _ _ k2 k3 (I1.hok.fresh (Nat.le_refl _))⟩
  have hb : b < h'.objs.size := Heap.lt_size e
  rw [PyProof.Rows.sortedHeap_old (Nat.ne_of_lt hb) (by rw [size_push']; exact Nat.lt_succ_of_lt hb)]
  exact Heap.get?_push_of_some _ e
end
end KN

set_option Elab.async false
set_option linter.all false
set_option maxRecDepth 100000
set_option maxHeartbeats 4000000
/-! KTop: the text by places, the scopes, words for calls. -/
namespace KP
open PySem PySem.Spec L2 KN
open PyProof.Rows hiding St
/-! ### the text -/
def topS (i : Nat) : Stmt := PySem.Challenge.pw_hookmats_k41_whole_closed_braids_by_all.main.body.getD i (.Pass ⟨0, 0, 0, 0⟩)
/-- what the top leaves of the built-in names -/
structure Bt (mg : Str → Option Value) : Prop where
  range : mg "range" = none
  len : mg "len" = none
  int : mg "int" = none
  abs : mg "abs" = none
  list : mg "list" = none
  tuple : mg "tuple" = none
  dict : mg "dict" = none
  sorted : mg "sorted" = none
  sum : mg "sum" = none
  all : mg "all" = none
  isinstance : mg "isinstance" = none
  str : mg "str" = none
  min : mg "min" = none
  max : mg "max" = none
  reversed : mg "reversed" = none
/-- a def to be called: its promise -/
structure Cal (P : Program) (w : World) (K : PySem.W.Frag) (mg : Str → Option Value) (base : Heap) (x : Str) (k : Nat) (ps : List Str) (sp : Sp) : Prop where
  ex : ∃ f fd, FnOk P w K mg base CX0 k f fd ps sp ∧ mg x = some (.ref f) ∧ PySem.W.keepIn K (.ref f) = true ∧ Binds K fd ps []
section
variable {X : Cx} {x : Str} {k : Nat} {ps : List Str} {sp : Sp} {e : Expr} {es : List Expr} {p pos : Pos} {t : TA}
theorem pe_cal (c : Cal X.prog X.w X.K X.mg X.base x k ps sp) (hr : Room k X.A) (hg : Gl X x) (ha : PA X (e :: es) t) (hdb : (x == ("__debug__" : Str)) = false := by decide)
    (he : starEach (e :: es) X.env = (false, eval e X.env) :: starEach es X.env := by rfl) (hpl : (backTo pos (starEach es X.env)).any (·.1) = false := by rfl) : PE X (.Call (.Name x p) (e :: es) [] pos) (tCall sp [] E0 t) := by
  obtain ⟨f, fd, F, hm, hk, hb⟩ := c.ex
  exact pe_call F hr hg hm hk hb .nil pass0 ha hdb he hpl
end
theorem same_new {H : Hp} {p : Addr} {o : HO} (h : H p = none) : Same H (upd H p o) := fun b x e => by
  rw [upd_ne (ne_of_none e h)]
  exact e
theorem tup_same {K : PySem.W.Frag} {H H' : Hp} {a : Addr} {xs : List V} (e : Same H H') (h : SqT K H a xs) : SqT K H' a xs := by
  rcases h with (h | ⟨o, h⟩) | h
  · exact .inl (.inl (e _ _ h))
  · exact .inl (.inr ⟨o, e _ _ h⟩)
  · exact .inr h
theorem put_same {H H1 : Hp} (s : Same H H1) {l : Addr} {o : HO} (h : H l = none) : Same H (upd H1 l o) := fun b x e => by
  rw [upd_ne (ne_of_none e h)]
  exact s b x e
theorem new_same {H H1 : Hp} (s : Same H H1) {l : Addr} {o : HO} (h : H1 l = none) : Same H (upd H1 l o) := put_same s (s.free h)
theorem upd_id {H : Hp} {a : Addr} {o : HO} (h : H a = some o) : upd H a o = H := by
  funext b
  by_cases e : b = a
  · rw [e, upd_same, h]
  · rw [upd_ne e]
theorem dec_lt (a b : Nat) : decide ((a : Int) < (b : Int)) = decide (a < b) := by
  by_cases h : a < b
  · rw [decide_eq_true h, decide_eq_true (by omega)]
  · rw [decide_eq_false h, decide_eq_false (by omega)]
theorem dec_le (a b : Nat) : decide ((a : Int) ≤ (b : Int)) = decide (a ≤ b) := by
  by_cases h : a ≤ b
  · rw [decide_eq_true h, decide_eq_true (by omega)]
  · rw [decide_eq_false h, decide_eq_false (by omega)]
theorem some_ne {H : Hp} {a b : Addr} {o u : HO} (h : H a = some o) (h' : H b = some u) (d : o ≠ u := by intro z; cases z) : a ≠ b := ne_of h h' d
/-- ints of a list of numbers -/
def vn (l : List Nat) : List V := l.map fun (k : Nat) => V.int (k : Int)
def vb (l : List Bool) : List V := l.map V.bl
theorem vn_len (l : List Nat) : (vn l).length = l.length := by unfold vn; rw [List.length_map]
theorem vb_len (l : List Bool) : (vb l).length = l.length := by unfold vb; rw [List.length_map]
theorem vn_get {l : List Nat} {i x : Nat} (h : l[i]? = some x) : (vn l)[i]? = some (.int x) := by
  unfold vn
  rw [List.getElem?_map, h]
  rfl
theorem vb_get {l : List Bool} {i : Nat} {x : Bool} (h : l[i]? = some x) : (vb l)[i]? = some (.bl x) := by
  unfold vb
  rw [List.getElem?_map, h]
  rfl
theorem vb_set (l : List Bool) (i : Nat) (b : Bool) : (vb l).set i (.bl b) = vb (l.set i b) := by
  unfold vb
  rw [List.map_set]
theorem vn_set (l : List Nat) (i x : Nat) : (vn l).set i (.int (x : Int)) = vn (l.set i x) := by
  unfold vn
  rw [List.map_set]
theorem vn_app (l m : List Nat) : vn (l ++ m) = vn l ++ vn m := by
  unfold vn
  rw [List.map_append]
/-- a place in a list by a whole number that is a natural one -/
theorem ixN_nat {n j : Nat} (h : j < n) : ixN n ((j : Nat) : Int) = some j := by
  unfold ixN
  rw [if_pos (by omega), if_pos (by omega)]
  simp
theorem range_drop {m i : Nat} (h : i < m) : (List.range m).drop i = i :: (List.range m).drop (i + 1) := by
  rw [List.drop_eq_getElem_cons (by rw [List.length_range]; exact h), List.getElem_range]
theorem range_end (m : Nat) : (List.range m).drop m = [] := List.drop_eq_nil_of_le (by rw [List.length_range]; exact Nat.le_refl _)
theorem rep_flat {α : Type} (m : Nat) (x : α) : (List.replicate m [x]).flatten = List.replicate m x := by
  induction m with
  | zero => rfl
  | succ m ih => rw [List.replicate_succ, List.flatten_cons, ih, List.replicate_succ]; rfl
theorem vb_rep (m : Nat) (b : Bool) : List.replicate m (V.bl b) = vb (List.replicate m b) := by
  unfold vb
  rw [List.map_replicate]
/-- a mat stands at a: a tuple of two numbers and the tuple of the mates -/
def MatH (H : Hp) (a : Addr) (n m : Nat) (l : List Nat) : Prop := ∃ b, H a = some (.tup [.int n, .int m, .ref b]) ∧ H b = some (.tup (vn l))
theorem MatH.keep {H H' : Hp} {a : Addr} {n m : Nat} {l : List Nat} (e : Same H H') (h : MatH H a n m l) : MatH H' a n m l := by
  obtain ⟨b, h1, h2⟩ := h
  exact ⟨b, e _ _ h1, e _ _ h2⟩
theorem MatH.keepT {H H' : Hp} {a : Addr} {n m : Nat} {l : List Nat} (e : ∀ b xs, H b = some (.tup xs) → H' b = some (.tup xs)) (h : MatH H a n m l) : MatH H' a n m l := by
  obtain ⟨b, h1, h2⟩ := h
  exact ⟨b, e _ _ h1, e _ _ h2⟩
theorem rgV_vn (a b : Nat) : rgV (a : Int) (b : Int) = vn ((List.range (b - a)).map (a + ·)) := by
  unfold rgV vn
  rw [List.map_map, show ((b : Int) - (a : Int)).toNat = b - a by omega]
  rfl
theorem rgV_vn0 (b : Nat) : rgV 0 (b : Int) = vn (List.range b) := by
  have h := rgV_vn 0 b
  rw [show (fun x => 0 + x) = (id : Nat → Nat) from funext fun x => Nat.zero_add x, List.map_id, Nat.sub_zero] at h
  exact h
theorem rgV_strL (n : Nat) : rgV (n : Int) (2 * (n : Int)) ++ rgV 0 (n : Int) = vn (KB.strL n) := by
  rw [show (2 * (n : Int)) = ((2 * n : Nat) : Int) by omega, rgV_vn, rgV_vn0, ← vn_app, show 2 * n - n = n by omega]
  rfl
theorem at_natV {l : List Nat} {x j : Nat} (h : l[j]? = some x) : atI (vn l) (j : Int) = some (.int x) := atI_nat (vn_get h)
theorem at_natV' {l : List Nat} {x j : Nat} {z : Int} (e : z = (j : Int)) (h : l[j]? = some x) : atI (vn l) z = some (.int x) := by
  rw [e]
  exact atI_nat (vn_get h)
theorem at_boolV' {l : List Bool} {x : Bool} {j : Nat} {z : Int} (e : z = (j : Int)) (h : l[j]? = some x) : atI (vb l) z = some (.bl x) := by
  rw [e]
  exact atI_nat (vb_get h)
theorem vb_ixN {ps : List Bool} {j : Nat} {z : Int} (e : z = (j : Int)) (h : j < ps.length) : ixN (vb ps).length z = some j := by
  rw [e, vb_len]
  exact ixN_nat h
/-! ### dicts of coefficients -/
abbrev kc (c : KB.LP) : List (Key × V) := c.map fun e => (Sum.inl e.1, V.int e.2)
theorem kc_len (c : KB.LP) : (kc c).length = c.length := List.length_map _
theorem kc_val (k : Int) : ∀ c : KB.LP, valV (kc c) (Sum.inl k : Key) = (KB.getK c k).map V.int
  | [] => rfl
  | e :: c => by
    by_cases h : e.1 = k
    · rw [KB.getK_pos h]
      show valV ((Sum.inl e.1, V.int e.2) :: kc c) _ = _
      rw [valV_pos (p := ((Sum.inl e.1 : Key), V.int e.2)) (by rw [h])]
      rfl
    · rw [KB.getK_neg h]
      show valV ((Sum.inl e.1, V.int e.2) :: kc c) _ = _
      rw [valV_neg (p := ((Sum.inl e.1 : Key), V.int e.2)) (fun z => h (Sum.inl.inj z)), kc_val k c]
theorem kc_getD (k : Int) (c : KB.LP) : (valV (kc c) (Sum.inl k : Key)).getD (.int 0) = .int ((KB.getK c k).getD 0) := by
  rw [kc_val]
  cases KB.getK c k <;> rfl
theorem kc_any (k : Int) : ∀ c : KB.LP, ((kc c).any fun kv => decide (kv.1 = (Sum.inl k : Key))) = c.any fun e => decide (e.1 = k)
  | [] => rfl
  | e :: c => by
    show (decide ((Sum.inl e.1 : Key) = Sum.inl k) || (kc c).any _) = (decide (e.1 = k) || c.any _)
    rw [kc_any k c]
    by_cases h : e.1 = k
    · rw [decide_eq_true h, decide_eq_true (by rw [h])]
    · rw [decide_eq_false h, decide_eq_false (fun z => h (Sum.inl.inj z))]
theorem kc_put (c : KB.LP) (k v : Int) : putK (kc c) (Sum.inl k : Key) (.int v) = kc (KB.putL c k v) := by
  unfold putK KB.putL
  rw [kc_any]
  split
  · show List.map _ (List.map _ c) = List.map _ (List.map _ c)
    rw [List.map_map, List.map_map]
    refine List.map_congr_left fun e _ => ?_
    show (if (Sum.inl e.1 : Key) = Sum.inl k then ((Sum.inl e.1 : Key), V.int v) else (Sum.inl e.1, V.int e.2)) = (Sum.inl (if e.1 = k then (e.1, v) else e).1, V.int (if e.1 = k then (e.1, v) else e).2)
    by_cases h : e.1 = k
    · rw [if_pos h, if_pos (by rw [h])]
    · rw [if_neg h, if_neg (fun z => h (Sum.inl.inj z))]
  · show _ = List.map _ (c ++ _)
    rw [List.map_append]
    rfl
theorem kc_bump (c : KB.LP) (k v : Int) : putK (kc c) (Sum.inl k : Key) (.int ((KB.getK c k).getD 0 + v)) = kc (KB.bump c k v) := kc_put c k _
theorem kc_keys (c : KB.LP) : (kc c).map (·.1) = (c.map (·.1)).map Sum.inl := by
  show List.map _ (List.map _ c) = _
  rw [List.map_map, List.map_map]
  rfl
/-- all but what stands at a stays -/
def SmB (a : Addr) (H H' : Hp) : Prop := ∀ x o, H x = some o → x ≠ a → H' x = some o
theorem SmB.of {a : Addr} {H H' : Hp} (s : Same H H') : SmB a H H' := fun x o e _ => s x o e
theorem SmB.trans {a : Addr} {H H1 H2 : Hp} (s : SmB a H H1) (t : SmB a H1 H2) : SmB a H H2 := fun x o e h => t x o (s x o e h) h
theorem SmB.same {a : Addr} {H H1 H2 : Hp} (s : Same H H1) (t : SmB a H1 H2) (h : H a = none) : Same H H2 := fun x o e => t x o (s x o e) (ne_of_none e h)
/-- a word stands at a -/
abbrev vi (l : List Int) : List V := l.map V.int
theorem vi_get {l : List Int} {i : Nat} {v : V} (h : (vi l)[i]? = some v) : ∃ c, l[i]? = some c ∧ v = .int c := by
  rw [List.getElem?_map] at h
  cases q : l[i]? with
  | none => rw [q] at h; cases h
  | some c =>
    rw [q] at h
    exact ⟨c, rfl, (Option.some.inj h).symm⟩
theorem dec_ne {a b : Int} (h : a ≠ b) : decide (V.int a = V.int b) = false := decide_eq_false fun z => h (V.int.inj z)
theorem vi_app (l m : List Int) : vi (l ++ m) = vi l ++ vi m := List.map_append
end KP

set_option Elab.async false
set_option linter.all false
set_option maxRecDepth 100000
set_option maxHeartbeats 4000000
namespace KP
open PySem PySem.Spec L2 KN
open PyProof.Rows hiding St
theorem sc_size : FnScope ["n"] ["n"] (defScope (topS 7)) := ⟨rfl, rfl, rfl, by decide +kernel, rfl, by decide +kernel, by decide +kernel⟩
theorem sc_straight : FnScope ["n"] ["n"] (defScope (topS 8)) := ⟨rfl, rfl, rfl, by decide +kernel, rfl, by decide +kernel, by decide +kernel⟩
theorem sc_hook : FnScope ["n", "i", "row"] ["n", "i"] (defScope (topS 9)) := ⟨rfl, rfl, rfl, by decide +kernel, rfl, by decide +kernel, by decide +kernel⟩
section
variable {P : Program} {w : World} {K : PySem.W.Frag} {mg : Str → Option Value} {base : Heap}
def spSize : Sp := fun vs H Q _ => ∃ n : Nat, vs = [.int n] ∧ 0 < n ∧ Q .non H
theorem ok_size {f : Addr} {fd : FuncData} (F : Fun K "check_size" "check_size" (topS 7) f fd) : FnOk P w K mg base CX0 1 f fd ["n"] spSize := by
  refine F.ok sc_size (fun vs H Q E h => ?_) (fun cdv A outer s H vs Q E hr h => ?_)
  · obtain ⟨n, rfl, _⟩ := h
    rfl
  · obtain ⟨n, rfl, hn, q⟩ := h
    refine ⟨_, pss_one (ps_if (pt_cmpR op_lt (pv 0) pe_int (nomark _)) (pss_one ps_never) pss_nil), ?_⟩
    refine ⟨_, rfl, _, _, rfl, rfl, _, rfl, ite2 (fun e => ?_) fun _ => q⟩
    have := of_decide_eq_true e
    omega
/-- a new mat -/
def spStraight : Sp := fun vs H Q _ => ∃ n : Nat, vs = [.int n] ∧ 0 < n ∧ n ≤ 100 ∧ ∀ H' p, Same H H' → MatH H' p n n (KB.strL n) → Q (.ref p) H'
theorem ok_straight {f : Addr} {fd : FuncData} (F : Fun K "straight" "straight" (topS 8) f fd) (T : Bt mg) (c : Cal P w K mg base "check_size" 1 ["n"] spSize) : FnOk P w K mg base CX0 2 f fd ["n"] spStraight := by
  refine F.ok sc_straight (fun vs H Q E h => ?_) (fun cdv A outer s H vs Q E hr h => ?_)
  · obtain ⟨n, rfl, _⟩ := h
    rfl
  · obtain ⟨n, rfl, hn, h1, q⟩ := h
    refine ⟨_, pss_cons (ps_expr (pe_cal c hr (by rfl) (pa_cons (pv 0) pa_nil)))
      (pss_one (ps_ret (pe_tup (pa_cons (pv 0) (pa_cons (pv 0) (pa_cons (pe_callTy call_tuple_of (by rfl) T.tuple (by decide +kernel) (pa_cons
        (pe_op op_cat (pe_listRg rfl (by rfl) T.list (prg_2 (by rfl) T.range (pv 0) (pe_op op_mul pe_int (pv 0)))) (pe_listRg rfl (by rfl) T.list (prg_1 (by rfl) T.range (pv 0)))) pa_nil)) pa_nil)))))), ?_⟩
    refine ⟨_, rfl, n, rfl, hn, ?_⟩
    refine ⟨_, rfl, _, rfl, _, rfl, _, rfl, _, _, rfl, rfl, .inl ⟨by decide, by decide⟩, n, 2 * n, rfl, rfl, RgOk.of_le (by omega) (by omega) (by omega) (by omega), fun a na => ?_⟩
    refine ⟨_, rfl, n, rfl, RgOk.of_le (by omega) (by omega) (by omega) (by omega), fun b nb => ?_⟩
    have ab : a ≠ b := ne_of_none (upd_same (H := H) (a := a) (o := .lst (rgV n (2 * n)))) nb
    refine ⟨a, b, _, _, rfl, rfl, by rw [upd_ne ab]; exact upd_same, upd_same, ?_, fun d nd => ?_⟩
    · rw [rgV_length, rgV_length, sizeLine_eq]
      omega
    · refine ⟨d, _, rfl, .inl ⟨SqL.of upd_same, fun t nt => ?_⟩⟩
      refine ⟨by show 3 ≤ sizeLine; decide, fun r nrr => ?_⟩
      have s1 : Same H _ := ((((same_new na).trans (same_new nb)).trans (same_new nd)).trans (same_new nt)).trans (same_new (o := .tup [.int n, .int n, .ref t]) nrr)
      refine q _ r s1 ⟨t, upd_same, ?_⟩
      rw [upd_ne (ne_of_none upd_same nrr), upd_same, rgV_strL]
def spHook : Sp := fun vs H Q _ => ∃ n i : Nat, vs = [.int n, .int i] ∧ i < n - 1 ∧ n ≤ 100 ∧ ∀ H' p, Same H H' → MatH H' p n n (KB.hookL n i) → Q (.ref p) H'
theorem strL_len (n : Nat) : (KB.strL n).length = 2 * n := by
  unfold KB.strL
  rw [List.length_append, List.length_map, List.length_range]
  omega
theorem ok_hook {f : Addr} {fd : FuncData} (F : Fun K "hook" "hook" (topS 9) f fd) (T : Bt mg) (c : Cal P w K mg base "check_size" 1 ["n"] spSize) (c2 : Cal P w K mg base "straight" 2 ["n"] spStraight) : FnOk P w K mg base CX0 3 f fd ["n", "i"] spHook := by
  refine F.ok sc_hook (fun vs H Q E h => ?_) (fun cdv A outer s H vs Q E hr h => ?_)
  · obtain ⟨n, i, rfl, _⟩ := h
    rfl
  · obtain ⟨n, i, rfl, hi, hn, q⟩ := h
    have hr1 : Room 1 _ := hr.mono (by decide)
    refine ⟨_, pss_cons (ps_expr (pe_cal c hr1 (by rfl) (pa_cons (pv 0) pa_nil)))
      (pss_cons (ps_if (pw_or (pt_cmpR op_lt (pv 1) pe_int (nomark _)) (pw_or1 (pt_cmpR op_gt (pv 1) (pe_op op_sub (pv 0) pe_int) (nomark _)))).pt (pss_one ps_never) pss_nil)
      (pss_cons (ps_set (i := 2) sc_hook.nd rfl (.inl rfl) (pe_callTy call_list_of (by rfl) T.list (by decide +kernel) (pa_cons (pe_ix ix_tup (pe_cal c2 hr (by rfl) (pa_cons (pv 0) pa_nil)) pe_int (fun _ _ => rfl)) pa_nil)))
      (pss_cons (ps_asg (pe_tup (pa_cons (pe_op op_add (pv 1) pe_int) (pa_cons (pv 1) pa_nil))) (pg_tup rfl (pgs_cons (pg_sub (pv 2) (pv 1) set_list) (pgs_cons (pg_sub (pv 2) (pe_op op_add (pv 1) pe_int) set_list) pgs_nil))))
      (pss_cons (ps_asg (pe_tup (pa_cons (pe_op op_add (pe_op op_add (pv 0) (pv 1)) pe_int) (pa_cons (pe_op op_add (pv 0) (pv 1)) pa_nil))) (pg_tup rfl (pgs_cons (pg_sub (pv 2) (pe_op op_add (pv 0) (pv 1)) set_list) (pgs_cons (pg_sub (pv 2) (pe_op op_add (pe_op op_add (pv 0) (pv 1)) pe_int) set_list) pgs_nil))))
      (pss_one (ps_ret (pe_tup (pa_cons (pv 0) (pa_cons (pv 0) (pa_cons (pe_callTy call_tuple_of (by rfl) T.tuple (by decide +kernel) (pa_cons (pv 2) pa_nil)) pa_nil)))))))))), ?_⟩
    refine ⟨_, rfl, n, rfl, by omega, ?_⟩
    refine ⟨_, rfl, _, _, rfl, rfl, _, rfl, ite2 (fun e => ?_) fun _ => ?_⟩
    · have := of_decide_eq_true e
      omega
    refine ⟨_, rfl, _, rfl, _, _, rfl, rfl, _, _, rfl, rfl, _, rfl, ite2 (fun e => ?_) fun _ => ?_⟩
    · have := of_decide_eq_true e
      omega
    refine ⟨_, rfl, n, rfl, by omega, hn, fun H1 p s1 hp => ?_⟩
    obtain ⟨b, hp1, hp2⟩ := hp
    refine ⟨p, _, 2, .ref b, rfl, rfl, SqT.of hp1, rfl, b, _, rfl, .inr (SqT.of hp2), fun l nl => ?_⟩
    have hlen : ∀ (z : List Nat) (j : Nat), z.length = 2 * n → j < 2 * n → ixN (vn z).length ((j : Nat) : Int) = some j := fun z j h1 h2 => ixN_nat (by rw [vn_len, h1]; exact h2)
    have L0 := strL_len n
    -- row[i], row[i + 1] = i + 1, i
    refine ⟨_, rfl, _, _, rfl, rfl, _, rfl, by show 2 ≤ sizeLine; decide, fun t nt => ?_⟩
    have lt : l ≠ t := ne_of_none upd_same nt
    have hl : H l = none := s1.free nl
    have S2 := new_same s1 nl (o := .lst (vn (KB.strL n)))
    have S3 := new_same S2 nt (o := .tup [.int ((i : Int) + 1), .int i])
    have el : (upd (upd H1 l (.lst (vn (KB.strL n)))) t (.tup [.int ((i : Int) + 1), .int i])) l = some (.lst (vn (KB.strL n))) := by rw [upd_ne lt]; exact upd_same
    have a1 : ixN (vn (KB.strL n)).length (i : Int) = some i := hlen _ _ L0 (by omega)
    have a2 : ixN ((vn (KB.strL n)).set i (.int ((i : Int) + 1))).length ((i : Int) + 1) = some (i + 1) := by rw [List.length_set]; exact hlen _ (i + 1) L0 (by omega)
    refine ⟨t, _, rfl, SqT.of upd_same, rfl, _, _, rfl, ⟨_, rfl, _, rfl, l, _, _, i, rfl, rfl, el, a1, ?_⟩⟩
    refine ⟨_, _, rfl, ⟨_, rfl, _, rfl, _, _, rfl, rfl, l, _, _, i + 1, rfl, rfl, upd_same, a2, ⟨rfl, ?_⟩⟩⟩
    -- row[n + i], row[n + i + 1] = n + i + 1, n + i
    refine ⟨_, rfl, _, rfl, _, _, rfl, rfl, _, _, rfl, rfl, _, rfl, _, rfl, _, _, rfl, rfl, by show 2 ≤ sizeLine; decide, fun u nu => ?_⟩
    have lu : l ≠ u := ne_of_none upd_same nu
    have e2 : ((((vn (KB.strL n)).set i (V.int ((i : Int) + 1))).set (i + 1) (V.int (i : Int)))) = vn (((KB.strL n).set i (i + 1)).set (i + 1) i) := by
      rw [show ((i : Int) + 1) = ((i + 1 : Nat) : Int) by omega, vn_set, vn_set]
    rw [upd_upd, e2]
    rw [upd_upd, e2] at nu
    have L1 : (((KB.strL n).set i (i + 1)).set (i + 1) i).length = 2 * n := by rw [List.length_set, List.length_set]; exact L0
    generalize hz : ((KB.strL n).set i (i + 1)).set (i + 1) i = z at *
    have a3 : ixN (vn z).length ((n : Int) + i) = some (n + i) := by rw [show (n : Int) + i = ((n + i : Nat) : Int) by omega]; exact hlen _ _ L1 (by omega)
    have a4 : ixN ((vn z).set (n + i) (.int ((n : Int) + i + 1))).length ((n : Int) + i + 1) = some (n + i + 1) := by rw [List.length_set, show (n : Int) + i + 1 = ((n + i + 1 : Nat) : Int) by omega]; exact hlen _ _ L1 (by omega)
    refine ⟨u, _, rfl, SqT.of upd_same, rfl, _, _, rfl, ⟨_, rfl, _, rfl, _, rfl, _, _, rfl, rfl, l, _, _, n + i, rfl, rfl, by rw [upd_ne lu]; exact upd_same, a3, ?_⟩⟩
    refine ⟨_, _, rfl, ⟨_, rfl, _, rfl, _, rfl, _, _, rfl, rfl, _, _, rfl, rfl, l, _, _, n + i + 1, rfl, rfl, upd_same, a4, ⟨rfl, ?_⟩⟩⟩
    rw [upd_upd]
    -- return (n, n, tuple(row))
    refine ⟨_, rfl, _, rfl, _, rfl, l, _, rfl, .inl ⟨SqL.of upd_same, fun r nr => ?_⟩⟩
    refine ⟨by show 3 ≤ sizeLine; decide, fun m nm => ?_⟩
    have S4 := new_same (put_same S3 (o := .lst (vn z)) hl) nu (o := .tup [.int ((n : Int) + i + 1), .int ((n : Int) + i)])
    refine q _ m (new_same (new_same (put_same S4 hl) nr) nm) ⟨r, upd_same, ?_⟩
    rw [upd_ne (ne_of_none upd_same nm), upd_same]
    show some (HO.tup (((vn z).set (n + i) (.int ((n : Int) + i + 1))).set (n + i + 1) (.int ((n : Int) + i)))) = _
    rw [show (n : Int) + i + 1 = ((n + i + 1 : Nat) : Int) by omega, show (n : Int) + i = ((n + i : Nat) : Int) by omega, vn_set, vn_set, ← hz]
    rfl
end
end KP

set_option Elab.async false
set_option linter.all false
set_option maxRecDepth 100000
set_option maxHeartbeats 4000000
namespace KP
open PySem PySem.Spec L2 KN
open PyProof.Rows hiding St
theorem sc_far : FnScope ["one", "other", "peg", "passed", "n", "middle", "ahead", "at"] ["one", "other", "peg", "passed"] (defScope (topS 11)) := ⟨rfl, rfl, rfl, by decide +kernel, rfl, by decide +kernel, by decide +kernel⟩
section
variable {P : Program} {w : World} {K : PySem.W.Frag} {mg : Str → Option Value} {base : Heap}
def spFar : Sp := fun vs H Q _ => ∃ (a b p : Addr) (n m m' k peg : Nat) (la lb : List Nat) (ps : List Bool) (r : Nat) (ps' : List Bool), vs = [.ref a, .ref b, .int peg, .ref p] ∧ MatH H a n m la ∧ MatH H b m' k lb ∧ H p = some (.lst (vb ps)) ∧
  KB.farEnd n m la lb peg ps = some (r, ps') ∧ Q (.int r) (upd H p (.lst (vb ps')))
theorem ok_far {f : Addr} {fd : FuncData} (F : Fun K "far_end" "far_end" (topS 11) f fd) : FnOk P w K mg base CX0 1 f fd ["one", "other", "peg", "passed"] spFar := by
  refine F.ok sc_far (fun vs H Q E h => ?_) (fun cdv A outer s H vs Q E hr h => ?_)
  · obtain ⟨a, b, p, n, m, m', k, peg, la, lb, ps, r, ps', rfl, _⟩ := h
    rfl
  · obtain ⟨a, b, p, n, m, m', k, peg, la, lb, ps, r, ps', rfl, ha, hb, hp, hf, q⟩ := h
    obtain ⟨ta, ha1, ha2⟩ := ha
    obtain ⟨tb, hb1, hb2⟩ := hb
    have pa : a ≠ p := some_ne ha1 hp
    have pta : ta ≠ p := some_ne ha2 hp
    have pb : b ≠ p := some_ne hb1 hp
    have ptb : tb ≠ p := some_ne hb2 hp
    refine ⟨_, pss_cons (ps_par (i := 4) (j := 5) rfl sc_far.nd rfl rfl (by decide) rfl rfl (pa_cons (pe_ix ix_tup (pv 0) pe_int (fun _ _ => rfl)) (pa_cons (pe_ix ix_tup (pv 0) pe_int (fun _ _ => rfl)) pa_nil)) (by rfl))
      (pss_cons (ps_set (i := 6) sc_far.nd rfl (.inl rfl) (pe_cmpR op_lt (pv 2) (pv 4) (nomark _)))
      (pss_cons (ps_set (i := 7) sc_far.nd rfl (.inl rfl) (pe_ifExp (pt_val (pv 6)) (pe_ix ix_tup (pe_ix ix_tup (pv 0) pe_int (fun _ _ => rfl)) (pv 2) (fun _ _ => rfl))
          (pe_ix ix_tup (pe_ix ix_tup (pv 1) pe_int (fun _ _ => rfl)) (pe_op op_sub (pe_op op_add (pv 5) (pv 2)) (pv 4)) (fun _ _ => rfl))))
      (pss_one (ps_while PassesOwn.never (pt_val pe_bl)
        (pss_cons (ps_if (pt_val (pv 6))
          (pss_cons (ps_if (pt_cmpR op_lt (pv 7) (pv 4) (nomark _)) (pss_one (ps_ret (pv 7))) pss_nil)
          (pss_cons (ps_aug (i := 7) sc_far.nd rfl (.inl rfl) (pv 4) ip_sub)
          (pss_cons (ps_asg pe_bl (pg_sub (pv 3) (pv 7) set_list))
          (pss_one (ps_set (i := 7) sc_far.nd rfl (.inl rfl) (pe_ix ix_tup (pe_ix ix_tup (pv 1) pe_int (fun _ _ => rfl)) (pv 7) (fun _ _ => rfl)))))))
          (pss_cons (ps_if (pt_cmpR op_ge (pv 7) (pv 5) (nomark _)) (pss_one (ps_ret (pe_op op_sub (pe_op op_add (pv 4) (pv 7)) (pv 5)))) pss_nil)
          (pss_cons (ps_asg pe_bl (pg_sub (pv 3) (pv 7) set_list))
          (pss_one (ps_set (i := 7) sc_far.nd rfl (.inl rfl) (pe_ix ix_tup (pe_ix ix_tup (pv 0) pe_int (fun _ _ => rfl)) (pe_op op_add (pv 4) (pv 7)) (fun _ _ => rfl)))))))
        (pss_one (ps_set (i := 6) sc_far.nd rfl (.inl rfl) (pe_not (pv 6))))))))), ?_⟩
    -- n, middle = one[0], one[1]
    refine ⟨_, rfl, a, _, 0, _, rfl, rfl, SqT.of ha1, rfl, _, rfl, a, _, 1, _, rfl, rfl, SqT.of ha1, rfl, _, _, rfl, ?_⟩
    -- ahead = peg < n
    refine ⟨_, rfl, _, rfl, _, _, rfl, rfl, ?_⟩
    -- the loop, from any state of it
    have loop : ∀ (D : Ends), D.rt = Q → ∀ (d : Bool) (x : Nat), KB.farLoop n m la lb 40 d x ps = some (r, ps') → tWhile (tB (tC (.bl true))) (tSeq (tIfS (tB (tVar 6)) (tSeq (tIfS (tTest (tOp (rI0 fun i j => V.bl (decide (i < j))) (tVar 7) (tVar 4))) (tRet (tVar 7)) tNext)
        (tSeq (tAug 7 (tVar 4) (ipI fun i j => i - j)) (tSeq (tAsg (tC (V.bl true)) (gSub (tVar 3) (tVar 7) rSetL)) (tAsg (tOp (rIxT K) (tOp (rIxT K) (tVar 1) (tC (V.int 2))) (tVar 7)) (gName 7)))))
        (tSeq (tIfS (tTest (tOp (rI0 fun i j => V.bl (decide (j ≤ i))) (tVar 7) (tVar 5))) (tRet (tOp (rI0 fun i j => V.int (i - j)) (tOp (rI0 fun i j => V.int (i + j)) (tVar 4) (tVar 7)) (tVar 5))) tNext)
        (tSeq (tAsg (tC (V.bl true)) (gSub (tVar 3) (tVar 7) rSetL)) (tAsg (tOp (rIxT K) (tOp (rIxT K) (tVar 0) (tC (V.int 2))) (tOp (rI0 fun i j => V.int (i + j)) (tVar 4) (tVar 7))) (gName 7))))) (tAsg (tNotV (tVar 6)) (gName 6))) D
        [some (.ref a), some (.ref b), some (.int peg), some (.ref p), some (.int n), some (.int m), some (.bl d), some (.int x)] H := by
      intro D hD d x hx
      refine ⟨fun g σ H1 => ∃ (d : Bool) (x : Nat) (cur : List Bool), σ = [some (.ref a), some (.ref b), some (.int peg), some (.ref p), some (.int n), some (.int m), some (.bl d), some (.int x)] ∧ H1 = upd H p (.lst (vb cur)) ∧ KB.farLoop n m la lb g d x cur = some (r, ps'), ⟨40, d, x, ps, rfl, (upd_id hp).symm, hx⟩, ?_⟩
      rintro g σ H1 ⟨d, x, cur, rfl, rfl, hl⟩
      cases g with
      | zero => cases hl
      | succ g =>
        refine ⟨true, rfl, iteT ⟨_, fun σ' H' hN => ⟨g, Nat.lt_succ_self g, hN⟩, ?_⟩⟩
        cases d with
        | true =>
          refine ⟨_, rfl, true, rfl, iteT ?_⟩
          refine ⟨_, rfl, _, rfl, _, _, rfl, rfl, _, rfl, ?_⟩
          rw [dec_lt]
          refine ite2 (fun e => ?_) fun e => ?_
          · have e' : x < n := of_decide_eq_true e
            rw [KB.farLoop, if_pos e'] at hl
            cases hl
            refine ⟨_, rfl, ?_⟩
            rw [hD]
            exact q
          · have e' : ¬ x < n := fun z => e (decide_eq_true z)
            rw [KB.farLoop, if_neg e'] at hl
            by_cases h2 : x - n < cur.length
            · rw [if_pos h2] at hl
              cases h3 : lb[x - n]? with
              | none => rw [h3] at hl; cases hl
              | some y =>
                rw [h3] at hl
                refine ⟨_, rfl, _, rfl, _, _, rfl, rfl, ?_⟩
                refine ⟨_, rfl, _, rfl, p, _, _, x - n, rfl, rfl, upd_same, vb_ixN (by show (x : Int) - n = _; omega) h2, ?_⟩
                rw [upd_upd, vb_set]
                refine ⟨_, rfl, b, _, 2, _, rfl, rfl, SqT.of (by rw [upd_ne pb]; exact hb1), rfl, _, rfl, tb, _, _, _, rfl, rfl, SqT.of (by rw [upd_ne ptb]; exact hb2), at_natV' (by show (x : Int) - n = _; omega) h3, ?_⟩
                exact ⟨_, rfl, true, rfl, false, y, _, rfl, rfl, hl⟩
            · rw [if_neg h2] at hl
              cases hl
        | false =>
          refine ⟨_, rfl, false, rfl, iteF ?_⟩
          refine ⟨_, rfl, _, rfl, _, _, rfl, rfl, _, rfl, ?_⟩
          rw [dec_le]
          refine ite2 (fun e => ?_) fun e => ?_
          · have e' : m ≤ x := of_decide_eq_true e
            rw [KB.farLoop, if_pos e'] at hl
            cases hl
            refine ⟨_, rfl, _, rfl, _, _, rfl, rfl, _, rfl, _, _, rfl, rfl, ?_⟩
            rw [hD]
            show Q (.int ((n : Int) + x - m)) _
            rw [show (n : Int) + x - m = ((n + x - m : Nat) : Int) by omega]
            exact q
          · have e' : ¬ m ≤ x := fun z => e (decide_eq_true z)
            rw [KB.farLoop, if_neg e'] at hl
            by_cases h2 : x < cur.length
            · rw [if_pos h2] at hl
              cases h3 : la[n + x]? with
              | none => rw [h3] at hl; cases hl
              | some y =>
                rw [h3] at hl
                refine ⟨_, rfl, _, rfl, p, _, _, x, rfl, rfl, upd_same, vb_ixN rfl h2, ?_⟩
                rw [upd_upd, vb_set]
                refine ⟨_, rfl, a, _, 2, _, rfl, rfl, SqT.of (by rw [upd_ne pa]; exact ha1), rfl, _, rfl, _, rfl, _, _, rfl, rfl, ta, _, _, _, rfl, rfl, SqT.of (by rw [upd_ne pta]; exact ha2), at_natV' (by omega) h3, ?_⟩
                exact ⟨_, rfl, false, rfl, true, y, _, rfl, rfl, hl⟩
            · rw [if_neg h2] at hl
              cases hl
    -- at
    unfold KB.farEnd at hf
    refine ⟨_, rfl, _, rfl, ite2 (fun e => ?_) fun e => ?_⟩
    · have e' : peg < n := by have := of_decide_eq_true e; omega
      rw [if_pos e', ← dec_lt] at hf
      cases h3 : la[peg]? with
      | none => rw [h3] at hf; cases hf
      | some x =>
        rw [h3] at hf
        refine ⟨_, rfl, a, _, 2, _, rfl, rfl, SqT.of ha1, rfl, _, rfl, ta, _, _, _, rfl, rfl, SqT.of ha2, at_natV h3, ?_⟩
        exact loop _ rfl _ x hf
    · have e' : ¬ peg < n := fun z => e (decide_eq_true (by omega))
      rw [if_neg e', ← dec_lt] at hf
      cases h3 : lb[m + peg - n]? with
      | none => rw [h3] at hf; cases hf
      | some x =>
        rw [h3] at hf
        refine ⟨_, rfl, b, _, 2, _, rfl, rfl, SqT.of hb1, rfl, _, rfl, _, rfl, _, _, rfl, rfl, _, rfl, _, _, rfl, rfl, tb, _, _, _, rfl, rfl, SqT.of hb2, at_natV' (by omega) h3, ?_⟩
        exact loop _ rfl _ x hf
end
end KP

set_option Elab.async false
set_option linter.all false
set_option maxRecDepth 100000
set_option maxHeartbeats 4000000
namespace KP
open PySem PySem.Spec L2 KN
open PyProof.Rows hiding St
theorem sc_loose : FnScope ["one", "other", "passed", "n", "rings", "start", "at"] ["one", "other", "passed"] (defScope (topS 12)) := ⟨rfl, rfl, rfl, by decide +kernel, rfl, by decide +kernel, by decide +kernel⟩
theorem sc_put : FnScope ["one", "other", "n", "k", "passed", "mates", "peg"] ["one", "other"] (defScope (topS 13)) := ⟨rfl, rfl, rfl, by decide +kernel, rfl, by decide +kernel, by decide +kernel⟩
theorem sc_closed : FnScope ["mat", "n", "back"] ["mat"] (defScope (topS 14)) := ⟨rfl, rfl, rfl, by decide +kernel, rfl, by decide +kernel, by decide +kernel⟩
section
variable {P : Program} {w : World} {K : PySem.W.Frag} {mg : Str → Option Value} {base : Heap}
def spLoose : Sp := fun vs H Q _ => ∃ (a b p : Addr) (n m m' k : Nat) (la lb : List Nat) (ps : List Bool) (r : Nat) (ps' : List Bool), vs = [.ref a, .ref b, .ref p] ∧ MatH H a n m la ∧ MatH H b m' k lb ∧ H p = some (.lst (vb ps)) ∧ m ≤ 1000 ∧
  KB.looseAll n la lb (List.range m) ps 0 = some (r, ps') ∧ Q (.int r) (upd H p (.lst (vb ps')))
theorem ok_loose {f : Addr} {fd : FuncData} (F : Fun K "loose_rings" "loose_rings" (topS 12) f fd) (T : Bt mg) : FnOk P w K mg base CX0 1 f fd ["one", "other", "passed"] spLoose := by
  refine F.ok sc_loose (fun vs H Q E h => ?_) (fun cdv A outer s H vs Q E hr h => ?_)
  · obtain ⟨a, b, p, n, m, m', k, la, lb, ps, r, ps', rfl, _⟩ := h
    rfl
  · obtain ⟨a, b, p, n, m, m', k, la, lb, ps, r, ps', rfl, ha, hb, hp, hm, hf, q⟩ := h
    obtain ⟨ta, ha1, ha2⟩ := ha
    obtain ⟨tb, hb1, hb2⟩ := hb
    have pa : a ≠ p := some_ne ha1 hp
    have pta : ta ≠ p := some_ne ha2 hp
    have pb : b ≠ p := some_ne hb1 hp
    have ptb : tb ≠ p := some_ne hb2 hp
    refine ⟨_, pss_cons (ps_set (i := 3) sc_loose.nd rfl (.inl rfl) (pe_ix ix_tup (pv 0) pe_int (fun _ _ => rfl)))
      (pss_cons (ps_set (i := 4) sc_loose.nd rfl (.inl rfl) pe_int)
      (pss_cons (ps_for PassesOwn.never rfl (pi_range1 (by rfl) T.range (pa_cons (pe_ix ix_tup (pv 0) pe_int (fun _ _ => rfl)) pa_nil)) (pg_name (i := 5) sc_loose.nd rfl (.inl rfl))
        (pss_one (ps_if (pt_not (pt_val (pe_ix ix_list (pv 2) (pv 5) (fun _ _ => rfl))))
          (pss_cons (ps_aug (i := 4) sc_loose.nd rfl (.inl rfl) pe_int ip_add)
          (pss_cons (ps_set (i := 6) sc_loose.nd rfl (.inl rfl) (pv 5))
          (pss_one (ps_while PassesOwn.never (pt_not (pt_val (pe_ix ix_list (pv 2) (pv 6) (fun _ _ => rfl))))
            (pss_cons (ps_asg pe_bl (pg_sub (pv 2) (pv 6) set_list))
            (pss_cons (ps_set (i := 6) sc_loose.nd rfl (.inl rfl) (pe_op op_sub (pe_ix ix_tup (pe_ix ix_tup (pv 0) pe_int (fun _ _ => rfl)) (pe_op op_add (pv 3) (pv 6)) (fun _ _ => rfl)) (pv 3)))
            (pss_cons (ps_asg pe_bl (pg_sub (pv 2) (pv 6) set_list))
            (pss_one (ps_set (i := 6) sc_loose.nd rfl (.inl rfl) (pe_ix ix_tup (pe_ix ix_tup (pv 1) pe_int (fun _ _ => rfl)) (pv 6) (fun _ _ => rfl)))))))))))
          pss_nil)))
      (pss_one (ps_ret (pv 4))))), ?_⟩
    refine ⟨_, rfl, a, _, 0, _, rfl, rfl, SqT.of ha1, rfl, ?_⟩
    refine ⟨_, rfl, a, _, 1, _, rfl, rfl, SqT.of ha1, rfl, m, rfl, by omega, by omega, ?_⟩
    refine for_range (lo := 0) (n := m) (fun i σ H1 => ∃ (cur : List Bool) (z : Nat) (y5 y6 : Option V), σ = [some (.ref a), some (.ref b), some (.ref p), some (.int n), some (.int z), y5, y6] ∧ H1 = upd H p (.lst (vb cur)) ∧ KB.looseAll n la lb ((List.range m).drop i) cur z = some (r, ps'))
      ⟨ps, 0, none, none, rfl, (upd_id hp).symm, hf⟩ ?_ ?_
    · rintro i σ H1 hi ⟨cur, z, y5, y6, rfl, rfl, hl⟩
      rw [range_drop hi, KB.looseAll] at hl
      cases h1 : cur[i]? with
      | none => rw [h1] at hl; cases hl
      | some bb =>
        rw [h1] at hl
        refine ⟨_, rfl, _, rfl, p, _, _, _, rfl, rfl, SqL.of upd_same, at_boolV' (by omega) h1, bb, rfl, ?_⟩
        cases bb with
        | true => exact iteF ⟨cur, z, _, _, rfl, rfl, hl⟩
        | false =>
          refine iteT ?_
          cases h2 : KB.ringLoop n la lb 40 i cur with
          | none => simp only [h2] at hl; cases hl
          | some psr =>
            simp only [h2] at hl
            refine ⟨_, rfl, _, _, rfl, rfl, ?_⟩
            refine ⟨_, rfl, ?_⟩
            refine ⟨fun g σ H1 => ∃ (x : Nat) (cc : List Bool), σ = [some (.ref a), some (.ref b), some (.ref p), some (.int n), some (.int ((z : Int) + 1)), some (.int (0 + (i : Nat))), some (.int x)] ∧ H1 = upd H p (.lst (vb cc)) ∧ KB.ringLoop n la lb g x cc = some psr,
              ⟨40, i, cur, by rw [show ((0 : Int) + (i : Nat)) = (i : Int) by omega]; rfl, rfl, h2⟩, ?_⟩
            rintro g σ H1 ⟨x, cc, rfl, rfl, hg⟩
            cases g with
            | zero => cases hg
            | succ g =>
              rw [KB.ringLoop] at hg
              cases h3 : cc[x]? with
              | none => rw [h3] at hg; cases hg
              | some b2 =>
                rw [h3] at hg
                refine ⟨_, rfl, _, rfl, p, _, _, _, rfl, rfl, SqL.of upd_same, at_boolV' rfl h3, b2, rfl, ?_⟩
                have hx : x < cc.length := (List.getElem?_eq_some_iff.mp h3).1
                cases b2 with
                | true =>
                  cases hg
                  exact iteF ⟨_, z + 1, _, _, rfl, rfl, hl⟩
                | false =>
                  refine iteT ⟨_, fun σ' H' hN => ⟨g, Nat.lt_succ_self g, hN⟩, ?_⟩
                  cases h4 : la[n + x]? with
                  | none => simp only [h4] at hg; cases hg
                  | some y =>
                    simp only [h4] at hg
                    by_cases h5 : n ≤ y ∧ y - n < cc.length
                    · rw [if_pos h5] at hg
                      cases h6 : lb[y - n]? with
                      | none => rw [h6] at hg; cases hg
                      | some u =>
                        rw [h6] at hg
                        refine ⟨_, rfl, _, rfl, p, _, _, x, rfl, rfl, upd_same, vb_ixN rfl hx, ?_⟩
                        rw [upd_upd, vb_set]
                        refine ⟨_, rfl, a, _, 2, _, rfl, rfl, SqT.of (by rw [upd_ne pa]; exact ha1), rfl, _, rfl, _, rfl, _, _, rfl, rfl, ta, _, _, _, rfl, rfl, SqT.of (by rw [upd_ne pta]; exact ha2), at_natV' (by show (n : Int) + x = _; omega) h4, _, rfl, _, _, rfl, rfl, ?_⟩
                        refine ⟨_, rfl, _, rfl, p, _, _, y - n, rfl, rfl, upd_same, vb_ixN (by show (y : Int) - n = _; omega) (by rw [List.length_set]; exact h5.2), ?_⟩
                        rw [upd_upd, vb_set]
                        refine ⟨_, rfl, b, _, 2, _, rfl, rfl, SqT.of (by rw [upd_ne pb]; exact hb1), rfl, _, rfl, tb, _, _, _, rfl, rfl, SqT.of (by rw [upd_ne ptb]; exact hb2), at_natV' (by show (y : Int) - n = _; omega) h6, ?_⟩
                        exact ⟨u, _, rfl, rfl, hg⟩
                    · rw [if_neg h5] at hg
                      cases hg
    · rintro σ H1 ⟨cur, z, y5, y6, rfl, rfl, hl⟩
      rw [range_end, KB.looseAll] at hl
      cases hl
      exact ⟨_, rfl, q⟩
def spPut : Sp := fun vs H Q _ => ∃ (a b : Addr) (n m m' k : Nat) (la lb : List Nat) (r : Nat) (ms : List Nat), vs = [.ref a, .ref b] ∧ MatH H a n m la ∧ MatH H b m' k lb ∧ m ≤ 100 ∧ n + k ≤ 100 ∧
  KB.putB n m k la lb = some (r, ms) ∧ ∀ H' t c, Same H H' → H' t = some (.tup [.int r, .int n, .int k, .ref c]) → H' c = some (.tup (vn ms)) → Q (.ref t) H'
theorem ok_put {f : Addr} {fd : FuncData} (F : Fun K "put_behind" "put_behind" (topS 13) f fd) (T : Bt mg) (cF : Cal P w K mg base "far_end" 1 ["one", "other", "peg", "passed"] spFar) (cL : Cal P w K mg base "loose_rings" 1 ["one", "other", "passed"] spLoose) :
    FnOk P w K mg base CX0 2 f fd ["one", "other"] spPut := by
  refine F.ok sc_put (fun vs H Q E h => ?_) (fun cdv A outer s H vs Q E hr h => ?_)
  · obtain ⟨a, b, n, m, m', k, la, lb, r, ms, rfl, _⟩ := h
    rfl
  · obtain ⟨a, b, n, m, m', k, la, lb, r, ms, rfl, ha, hb, hm, hnk, hf, q⟩ := h
    have ⟨ta, ha1, ha2⟩ := ha
    have ⟨tb, hb1, hb2⟩ := hb
    refine ⟨_, pss_cons (ps_par (i := 2) (j := 3) rfl sc_put.nd rfl rfl (by decide) rfl rfl (pa_cons (pe_ix ix_tup (pv 0) pe_int (fun _ _ => rfl)) (pa_cons (pe_ix ix_tup (pv 1) pe_int (fun _ _ => rfl)) pa_nil)) (by rfl))
      (pss_cons (ps_set (i := 4) sc_put.nd rfl (.inl rfl) (pe_op op_rep (pe_lst (pa_cons pe_bl pa_nil)) (pe_ix ix_tup (pv 0) pe_int (fun _ _ => rfl))))
      (pss_cons (ps_set (i := 5) sc_put.nd rfl (.inl rfl) (pe_lst pa_nil))
      (pss_cons (ps_for PassesOwn.never rfl (pi_range1 (by rfl) T.range (pa_cons (pe_op op_add (pv 2) (pv 3)) pa_nil)) (pg_name (i := 6) sc_put.nd rfl (.inl rfl))
        (pss_one (ps_expr (pe_bm PySem.F.plainAttrs_list PySem.F.slot_list_append PySem.F.type_list_append mt_append (pv 5) (pa_cons (pe_cal cF hr (by rfl) (pa_cons (pv 0) (pa_cons (pv 1) (pa_cons (pv 6) (pa_cons (pv 4) pa_nil))))) pa_nil)))))
      (pss_one (ps_ret (pe_tup (pa_cons (pe_cal cL hr (by rfl) (pa_cons (pv 0) (pa_cons (pv 1) (pa_cons (pv 4) pa_nil)))) (pa_cons (pv 2) (pa_cons (pv 3) (pa_cons (pe_callTy call_tuple_of (by rfl) T.tuple (by decide +kernel) (pa_cons (pv 5) pa_nil)) pa_nil)))))))))), ?_⟩
    refine ⟨_, rfl, a, _, 0, _, rfl, rfl, SqT.of ha1, rfl, _, rfl, b, _, 1, _, rfl, rfl, SqT.of hb1, rfl, _, _, rfl, ?_⟩
    -- passed = [False] * one[1]
    refine ⟨by show 1 ≤ sizeLine; decide, fun x nx => ?_⟩
    have sx := same_new (o := .lst [V.bl false]) nx
    refine ⟨_, rfl, a, _, 1, _, rfl, rfl, SqT.of (sx _ _ ha1), rfl, x, m, _, rfl, rfl, upd_same, by omega, by omega, by show 1 * (m : Int).toNat ≤ sizeLine; rw [sizeLine_eq]; omega, fun p np => ?_⟩
    rw [show (List.replicate (m : Int).toNat [V.bl false]).flatten = vb (List.replicate m false) by rw [show (m : Int).toNat = m by omega, rep_flat, vb_rep]]
    have sp := new_same sx np (o := .lst (vb (List.replicate m false)))
    -- mates = []
    refine ⟨Nat.zero_le _, fun l nl => ?_⟩
    have s0 := new_same sp nl (o := .lst [])
    have hpN : H p = none := sx.free np
    have hlN : H l = none := sp.free nl
    have pl : p ≠ l := ne_of_none upd_same nl
    unfold KB.putB at hf
    cases h1 : KB.farAll n m la lb (List.range (n + k)) (List.replicate m false) [] with
    | none => simp only [h1] at hf; cases hf
    | some mp =>
      obtain ⟨mz, pz⟩ := mp
      simp only [h1] at hf
      cases h2 : KB.looseAll n la lb (List.range m) pz 0 with
      | none => simp only [h2] at hf; cases hf
      | some rp =>
        obtain ⟨r', pe⟩ := rp
        simp only [h2] at hf
        obtain ⟨rfl, rfl⟩ : r' = r ∧ mz = ms := by
          have e := Option.some.inj hf
          exact ⟨congrArg Prod.fst e, congrArg Prod.snd e⟩
        refine ⟨_, rfl, _, rfl, _, _, rfl, rfl, ((n + k : Nat) : Int), by show [V.int ((n : Int) + k)] = _; rw [show (n : Int) + k = ((n + k : Nat) : Int) by omega], by omega, by omega, ?_⟩
        refine for_range (lo := 0) (n := n + k) (fun i σ H1 => ∃ (cur : List Bool) (acc : List Nat) (y6 : Option V), σ = [some (.ref a), some (.ref b), some (.int n), some (.int k), some (.ref p), some (.ref l), y6] ∧ Same H H1 ∧ H1 p = some (.lst (vb cur)) ∧ H1 l = some (.lst (vn acc)) ∧ acc.length = i ∧ KB.farAll n m la lb ((List.range (n + k)).drop i) cur acc = some (mz, pz))
          ⟨List.replicate m false, [], none, rfl, s0, by rw [upd_ne pl]; exact upd_same, upd_same, rfl, h1⟩ ?_ ?_
        · rintro i σ H1 hi ⟨cur, acc, y6, rfl, s1, e1, e2, e3, hl⟩
          rw [range_drop hi, KB.farAll] at hl
          cases h3 : KB.farEnd n m la lb i cur with
          | none => simp only [h3] at hl; cases hl
          | some xp =>
            obtain ⟨x', cur'⟩ := xp
            simp only [h3] at hl
            refine ⟨_, rfl, .inl ⟨rfl, _, SqL.of e2⟩, ?_⟩
            refine ⟨_, rfl, _, rfl, _, rfl, _, rfl, a, b, p, n, m, m', k, i, la, lb, cur, x', cur', by rw [show ((0 : Int) + (i : Nat)) = (i : Int) by omega]; rfl, ha.keep s1, hb.keep s1, e1, h3, ?_⟩
            refine ⟨l, _, _, rfl, rfl, by rw [upd_ne pl.symm]; exact e2, by rw [vn_len, e3, sizeLine_eq]; omega, ?_⟩
            refine ⟨cur', acc ++ [x'], _, rfl, put_same (put_same s1 hpN) hlN, by rw [upd_ne pl]; exact upd_same, ?_, by rw [List.length_append, e3]; rfl, hl⟩
            rw [upd_same, vn_app]
            rfl
        · rintro σ H1 ⟨cur, acc, y6, rfl, s1, e1, e2, e3, hl⟩
          rw [range_end, KB.farAll] at hl
          obtain ⟨rfl, rfl⟩ : acc = mz ∧ cur = pz := by
            have e := Option.some.inj hl
            exact ⟨congrArg Prod.fst e, congrArg Prod.snd e⟩
          refine ⟨_, rfl, _, rfl, _, rfl, a, b, p, n, m, m', k, la, lb, cur, r', pe, rfl, ha.keep s1, hb.keep s1, e1, by omega, h2, ?_⟩
          refine ⟨_, rfl, _, rfl, _, rfl, l, _, rfl, .inl ⟨SqL.of (by rw [upd_ne pl.symm]; exact e2), fun c nc => ?_⟩⟩
          refine ⟨by show 4 ≤ sizeLine; decide, fun t nt => ?_⟩
          refine q _ t c (new_same (new_same (put_same s1 hpN) nc) nt) upd_same ?_
          rw [upd_ne (ne_of_none upd_same nt), upd_same]
def spClosed : Sp := fun vs H Q _ => ∃ (a : Addr) (n : Nat) (la : List Nat) (r : Nat) (ms : List Nat), vs = [.ref a] ∧ MatH H a n n la ∧ 0 < n ∧ n ≤ 50 ∧ KB.putB 0 (2 * n) 0 la (KB.strL n) = some (r, ms) ∧ ∀ H', Same H H' → Q (.int r) H'
theorem ok_closed {f : Addr} {fd : FuncData} (F : Fun K "rings_closed" "rings_closed" (topS 14) f fd) (T : Bt mg) (cP : Cal P w K mg base "put_behind" 2 ["one", "other"] spPut) : FnOk P w K mg base CX0 3 f fd ["mat"] spClosed := by
  refine F.ok sc_closed (fun vs H Q E h => ?_) (fun cdv A outer s H vs Q E hr h => ?_)
  · obtain ⟨a, n, la, r, ms, rfl, _⟩ := h
    rfl
  · obtain ⟨a, n, la, r, ms, rfl, ha, hn, hn2, hf, q⟩ := h
    have ⟨ta, ha1, ha2⟩ := ha
    refine ⟨_, pss_cons (ps_set (i := 1) sc_closed.nd rfl (.inl rfl) (pe_ix ix_tup (pv 0) pe_int (fun _ _ => rfl)))
      (pss_cons (ps_set (i := 2) sc_closed.nd rfl (.inl rfl) (pe_op op_catA (pe_tupRg rfl (by rfl) T.tuple (prg_2 (by rfl) T.range (pv 1) (pe_op op_mul pe_int (pv 1)))) (pe_tupRg rfl (by rfl) T.tuple (prg_1 (by rfl) T.range (pv 1)))))
      (pss_one (ps_ret (pe_ix ix_tup (pe_cal cP hr (by rfl) (pa_cons (pe_tup (pa_cons pe_int (pa_cons (pe_op op_mul pe_int (pv 1)) (pa_cons (pe_ix ix_tup (pv 0) pe_int (fun _ _ => rfl)) pa_nil)))) (pa_cons (pe_tup (pa_cons (pe_op op_mul pe_int (pv 1)) (pa_cons pe_int (pa_cons (pv 2) pa_nil)))) pa_nil))) pe_int (fun _ _ => rfl))))), ?_⟩
    refine ⟨_, rfl, a, _, 0, _, rfl, rfl, SqT.of ha1, rfl, ?_⟩
    refine ⟨_, rfl, _, rfl, _, _, rfl, rfl, .inl ⟨by decide, by decide⟩, n, 2 * n, rfl, rfl, RgOk.of_le (by omega) (by omega) (by omega) (by omega), fun x nx => ?_⟩
    refine ⟨_, rfl, n, rfl, RgOk.of_le (by omega) (by omega) (by omega) (by omega), fun y ny => ?_⟩
    have xy : x ≠ y := ne_of_none upd_same ny
    have l1 : rgV (n : Int) (2 * (n : Int)) ≠ [] := fun z => by
      have := congrArg List.length z
      rw [rgV_length] at this
      simp only [List.length_nil] at this
      omega
    have l2 : rgV 0 (n : Int) ≠ [] := fun z => by
      have := congrArg List.length z
      rw [rgV_length] at this
      simp only [List.length_nil] at this
      omega
    refine ⟨x, y, _, _, rfl, rfl, SqT.of (by rw [upd_ne xy]; exact upd_same), SqT.of upd_same, by rw [rgV_length, rgV_length, sizeLine_eq]; omega, fun z => (l1 z).elim, fun _ z => (l2 z).elim, fun _ _ c nc => ?_⟩
    rw [rgV_strL]
    have s1 := new_same (new_same (same_new (o := .tup (rgV (n : Int) (2 * (n : Int)))) nx) ny (o := .tup (rgV 0 (n : Int)))) nc (o := .tup (vn (KB.strL n)))
    have hc : ∀ (H' : Hp), H' = H' → True := fun _ _ => trivial
    refine ⟨_, rfl, _, _, rfl, rfl, .inl ⟨by decide, by decide⟩, _, rfl, a, _, 2, _, rfl, rfl, SqT.of (s1 _ _ ha1), rfl, by show 3 ≤ sizeLine; decide, fun u nu => ?_⟩
    have s2 := new_same s1 nu (o := .tup [.int 0, .int (2 * (n : Int)), .ref ta])
    refine ⟨_, rfl, _, _, rfl, rfl, .inl ⟨by decide, by decide⟩, _, rfl, by show 3 ≤ sizeLine; decide, fun v nv => ?_⟩
    have s3 := new_same s2 nv (o := .tup [.int (2 * (n : Int)), .int 0, .ref c])
    have uv : u ≠ v := ne_of_none upd_same nv
    have cu : c ≠ u := ne_of_none upd_same nu
    have cv : c ≠ v := ne_of_none (show _ = some (HO.tup (vn (KB.strL n))) by rw [upd_ne cu]; exact upd_same) nv
    refine ⟨u, v, 0, 2 * n, 2 * n, 0, la, KB.strL n, r, ms, rfl, ⟨ta, ?_, s3 _ _ ha2⟩, ⟨c, ?_, ?_⟩, by omega, by omega, hf, fun H' t d sH' et ed => ?_⟩
    · rw [upd_ne uv, upd_same]
      rfl
    · rw [upd_same]
      rfl
    · rw [upd_ne cv, upd_ne cu, upd_same]
    · exact ⟨t, _, 0, _, rfl, rfl, SqT.of et, rfl, q H' (s3.trans sH')⟩
end
end KP

set_option Elab.async false
set_option linter.all false
set_option maxRecDepth 100000
set_option maxHeartbeats 4000000
namespace KP
open PySem PySem.Spec L2 KN
open PyProof.Rows hiding St
theorem sc_laurent : FnScope ["worth", "power"] ["worth"] (defScope (topS 16)) := ⟨rfl, rfl, rfl, by decide +kernel, rfl, by decide +kernel, by decide +kernel⟩
theorem sc_add : FnScope ["worth", "other", "shift", "factor", "power", "coefficient"] ["worth", "other", "shift", "factor"] (defScope (topS 17)) := ⟨rfl, rfl, rfl, by decide +kernel, rfl, by decide +kernel, by decide +kernel⟩
theorem sc_rings : FnScope ["worth", "rings", "found", "_", "longer_row"] ["worth", "rings"] (defScope (topS 18)) := ⟨rfl, rfl, rfl, by decide +kernel, rfl, by decide +kernel, by decide +kernel⟩
/-- a def with one default, to be called with and without it -/
structure CalD (P : Program) (w : World) (K : PySem.W.Frag) (mg : Str → Option Value) (base : Heap) (x : Str) (k : Nat) (ps : List Str) (sp : Sp) (d : V) : Prop where
  ex : ∃ f fd ds, FnOk P w K mg base CX0 k f fd ps sp ∧ mg x = some (.ref f) ∧ PySem.W.keepIn K (.ref f) = true ∧ Binds K fd ps [] ∧ Vals [d] ds ∧ Binds K fd ps ds
section
variable {X : Cx} {x : Str} {k : Nat} {ps : List Str} {sp : Sp} {e : Expr} {es : List Expr} {p pos : Pos} {t : TA} {d : V}
theorem pe_calN (c : CalD X.prog X.w X.K X.mg X.base x k ps sp d) (hr : Room k X.A) (hg : Gl X x) (ha : PA X (e :: es) t) (hdb : (x == ("__debug__" : Str)) = false := by decide)
    (he : starEach (e :: es) X.env = (false, eval e X.env) :: starEach es X.env := by rfl) (hpl : (backTo pos (starEach es X.env)).any (·.1) = false := by rfl) : PE X (.Call (.Name x p) (e :: es) [] pos) (tCall sp [] E0 t) := by
  obtain ⟨f, fd, ds, F, hm, hk, hb, _, _⟩ := c.ex
  exact pe_call F hr hg hm hk hb .nil pass0 ha hdb he hpl
theorem pe_calD (c : CalD X.prog X.w X.K X.mg X.base x k ps sp d) (hr : Room k X.A) (hg : Gl X x) (ha : PA X (e :: es) t) (hdb : (x == ("__debug__" : Str)) = false := by decide)
    (he : starEach (e :: es) X.env = (false, eval e X.env) :: starEach es X.env := by rfl) (hpl : (backTo pos (starEach es X.env)).any (·.1) = false := by rfl) : PE X (.Call (.Name x p) (e :: es) [] pos) (tCall sp [d] E0 t) := by
  obtain ⟨f, fd, ds, F, hm, hk, _, hv, hb⟩ := c.ex
  exact pe_call F hr hg hm hk hb hv pass0 ha hdb he hpl
end
section
variable {P : Program} {w : World} {K : PySem.W.Frag} {mg : Str → Option Value} {base : Heap}
def spAdd : Sp := fun vs H Q _ => ∃ (a b : Addr) (c d : KB.LP) (s f : Int), vs = [.ref a, .ref b, .int s, .int f] ∧ a ≠ b ∧ H a = some (.dK (kc c)) ∧ H b = some (.dK (kc d)) ∧ (f = 1 ∨ f = -1) ∧ c.length + d.length < sizeLine ∧
  ∀ H', SmB a H H' → H' a = some (.dK (kc (KB.addI c d s f))) → Q .non H'
theorem take_succ {α : Type} {l : List α} {i : Nat} {x : α} (h : l[i]? = some x) : l.take (i + 1) = l.take i ++ [x] := by
  rw [List.take_add_one, h]
  rfl
theorem ok_add {f : Addr} {fd : FuncData} {dvs : List V} {kws : List (Str × V)} (F : FunD K "add_into" "add_into" (defArgs (topS 17)) (defBody (topS 17)) (defScope (topS 17)) dvs kws f fd) : FnOk P w K mg base CX0 1 f fd ["worth", "other", "shift", "factor"] spAdd := by
  refine F.ok sc_add (fun vs H Q E h => ?_) (fun cdv A outer s H vs Q E hr h => ?_)
  · obtain ⟨a, b, c, d, s, f, rfl, _⟩ := h
    rfl
  · obtain ⟨a, b, c, d, z, g, rfl, ab, ha, hb, hg, hsz, q⟩ := h
    have hu := hu_of hr
    refine ⟨_, PSs.nox (pss_one (ps_lock (ps_for PassesOwn.never rfl (pi_items (pv 1)) (pg_tup rfl (pgs_cons (pg_name (i := 4) sc_add.nd rfl (.inl rfl)) (pgs_cons (pg_name (i := 5) sc_add.nd rfl (.inl rfl)) pgs_nil)))
      (pss_one (ps_dput hu (pv 0) (pe_op op_add (pv 4) (pv 2)) (pe_op op_add (pe_dget2 hu (pv 0) (pe_op op_add (pv 4) (pv 2)) pe_int ⟨rfl, rfl, rfl, rfl⟩) (pe_op op_mul (pv 3) (pv 5))) rfl))))), ?_⟩
    refine ⟨b, _, hb, trivial, fun od => ?_⟩
    refine ⟨_, rfl, b, od, kc d, rfl, upd_same, ?_⟩
    refine for_it walk_items (fun i σ H1 => ∃ y4 y5, σ = [some (.ref a), some (.ref b), some (.int z), some (.int g), y4, y5] ∧ SmB a (upd H b (.frz od (.dK (kc d)))) H1 ∧ H1 a = some (.dK (kc (KB.addI c (d.take i) z g))) ∧ H1 b = some (.frz od (.dK (kc d))))
      ⟨none, none, rfl, fun x o e _ => e, by rw [upd_ne ab]; exact ha, upd_same⟩ (fun i σ H1 _ ⟨_, _, _, _, _, h⟩ => h) ?_ ?_
    · rintro i v σ H1 H2 hi ⟨y4, y5, rfl, s1, e1, e2⟩ ⟨T, x, y, rfl, nT, rfl, f1, f2⟩
      rw [kc_len] at hi
      obtain ⟨en, hen⟩ : ∃ en, d[i]? = some en := ⟨d[i], List.getElem?_eq_getElem hi⟩
      have g1 : x = .int en.1 := by
        change Option.map _ (List.map _ d)[i]? = _ at f1
        rw [List.getElem?_map, hen] at f1
        exact (Option.some.inj f1).symm
      have g2 : y = .int en.2 := by
        change Option.map _ (List.map _ d)[i]? = _ at f2
        rw [List.getElem?_map, hen] at f2
        exact (Option.some.inj f2).symm
      subst g1 g2
      have aT : a ≠ T := ne_of_none e1 nT
      have bT : b ≠ T := ne_of_none e2 nT
      have e1' : (upd H1 T (.tup [.int en.1, .int en.2])) a = some (.dK (kc (KB.addI c (d.take i) z g))) := by rw [upd_ne aT]; exact e1
      refine ⟨T, _, rfl, SqT.of upd_same, rfl, _, _, rfl, _, _, rfl, rfl, ?_⟩
      have l1 := KB.len_addI z g (d.take i) c
      rw [List.length_take] at l1
      refine ⟨_, rfl, a, rfl, .inl ⟨_, .inl e1'⟩, _, rfl, _, rfl, _, _, rfl, rfl, _, DGet.k (k := Sum.inl (en.1 + z)) e1', ?_⟩
      refine ⟨_, rfl, _, rfl, _, _, rfl, rfl, .inl (by rcases hg with e | e <;> rw [e] <;> exact ⟨by decide, by decide⟩), _, _, kc_getD _ _, rfl, ?_⟩
      refine ⟨_, rfl, _, rfl, _, rfl, _, _, rfl, rfl, a, _, rfl, DPut.k (k := Sum.inl (en.1 + z)) e1' (by rw [kc_len]; omega), ?_⟩
      refine ⟨_, _, rfl, fun w o e hw => ?_, ?_, ?_⟩
      · have wT : w ≠ T := ne_of_none (s1 w o e hw) nT
        rw [upd_ne hw, upd_ne wT]
        exact s1 w o e hw
      · rw [upd_same, take_succ hen, KB.addI_snoc]
        exact congrArg (fun u => some (HO.dK u)) (kc_bump _ _ _)
      · rw [upd_ne ab.symm, upd_ne bT]
        exact e2
    · rintro σ H1 ⟨y4, y5, rfl, s1, e1, e2⟩
      rw [kc_len, List.take_of_length_le (Nat.le_refl _)] at e1
      refine ⟨e2, q _ (fun x o e hx => ?_) (by rw [upd_ne ab]; exact e1)⟩
      by_cases hb' : x = b
      · subst hb'
        rw [hb] at e
        cases e
        exact upd_same
      · rw [upd_ne hb']
        exact s1 x o (by rw [upd_ne hb']; exact e) hx
def spRings : Sp := fun vs H Q _ => ∃ (a : Addr) (c : KB.LP) (r : Nat), vs = [.ref a, .int r] ∧ H a = some (.dK (kc c)) ∧ r ≤ 100 ∧ 2 ^ r * c.length < sizeLine ∧ ∀ H' p, Same H H' → H p = none → H' p = some (.dK (kc (KB.wRings c r))) → Q (.ref p) H'
theorem ok_rings {f : Addr} {fd : FuncData} (F : Fun K "with_rings" "with_rings" (topS 18) f fd) (T : Bt mg) (cA : CalD P w K mg base "add_into" 1 ["worth", "other", "shift", "factor"] spAdd (.int 1)) : FnOk P w K mg base CX0 2 f fd ["worth", "rings"] spRings := by
  refine F.ok sc_rings (fun vs H Q E h => ?_) (fun cdv A outer s H vs Q E hr h => ?_)
  · obtain ⟨a, c, r, rfl, _⟩ := h
    rfl
  · obtain ⟨a, c, r, rfl, ha, hr1, hsz, q⟩ := h
    refine ⟨_, pss_cons (ps_set (i := 2) sc_rings.nd rfl (.inl rfl) (pe_callTy call_dictD (by rfl) T.dict (by decide +kernel) (pa_cons (pv 0) pa_nil)))
      (pss_cons (ps_for PassesOwn.never rfl (pi_range1 (by rfl) T.range (pa_cons (pv 1) pa_nil)) (pg_name (i := 3) sc_rings.nd rfl (.inl rfl))
        (pss_cons (ps_set (i := 4) sc_rings.nd rfl (.inl rfl) pe_dnewK)
        (pss_cons (ps_expr (pe_calN cA hr (by rfl) (pa_cons (pv 4) (pa_cons (pv 2) (pa_cons pe_int (pa_cons (pe_un un_neg pe_int) pa_nil))))))
        (pss_cons (ps_expr (pe_calN cA hr (by rfl) (pa_cons (pv 4) (pa_cons (pv 2) (pa_cons (pe_un un_neg pe_int) (pa_cons (pe_un un_neg pe_int) pa_nil))))))
        (pss_one (ps_set (i := 2) sc_rings.nd rfl (.inl rfl) (pv 4)))))))
      (pss_one (ps_ret (pv 2)))), ?_⟩
    refine ⟨_, rfl, a, _, rfl, .inl ha, fun p0 np0 => ?_⟩
    refine ⟨_, rfl, r, rfl, by omega, by omega, ?_⟩
    refine for_range (lo := 0) (n := r) (fun i σ H1 => ∃ (p : Addr) (y3 y4 : Option V), σ = [some (.ref a), some (.int r), some (.ref p), y3, y4] ∧ Same H H1 ∧ H p = none ∧ H1 p = some (.dK (kc (KB.wRings c i))))
      ⟨p0, none, none, rfl, same_new np0, np0, upd_same⟩ ?_ ?_
    · rintro i σ H1 hi ⟨p, y3, y4, rfl, s1, np, e1⟩
      intro l nl
      have pl : p ≠ l := ne_of_none e1 nl
      have hlN : H l = none := s1.free nl
      have b1 := KB.len_wRings c i
      have b2 : 2 ^ (i + 1) * c.length ≤ 2 ^ r * c.length := Nat.mul_le_mul_right _ (Nat.pow_le_pow_right (by decide) hi)
      have b3 : 2 ^ (i + 1) * c.length = 2 * (2 ^ i * c.length) := by rw [Nat.pow_succ, Nat.mul_comm (2 ^ i) 2, Nat.mul_assoc]
      refine ⟨_, rfl, _, rfl, 1, rfl, l, p, [], KB.wRings c i, 2, -1, rfl, pl.symm, upd_same, by rw [upd_ne pl]; exact e1, .inr rfl, by show 0 + _ < _; omega, fun H2 s2 f2 => ?_⟩
      have b4 := KB.len_addI 2 (-1) (KB.wRings c i) []
      simp only [List.length_nil] at b4
      refine ⟨_, rfl, _, rfl, 2, rfl, 1, rfl, l, p, _, KB.wRings c i, -2, -1, rfl, pl.symm, f2, s2 _ _ (by rw [upd_ne pl]; exact e1) pl, .inr rfl, by omega, fun H3 s3 f3 => ?_⟩
      exact ⟨_, rfl, l, _, _, rfl, SmB.same s1 (SmB.trans (SmB.of (same_new nl)) (SmB.trans s2 s3)) hlN, hlN, f3⟩
    · rintro σ H1 ⟨p, y3, y4, rfl, s1, np, e1⟩
      exact ⟨_, rfl, q H1 p s1 np e1⟩
/-- tuples of two numbers each -/
def LpTs (H : Hp) (ts : List Addr) (L : KB.LP) : Prop := ts.length = L.length ∧ ∀ (i : Nat) t e, ts[i]? = some t → L[i]? = some e → H t = some (.tup [.int e.1, .int e.2])
theorem LpTs.keep {H H' : Hp} {ts : List Addr} {L : KB.LP} (s : ∀ b xs, H b = some (.tup xs) → H' b = some (.tup xs)) (h : LpTs H ts L) : LpTs H' ts L :=
  ⟨h.1, fun i t e x y => s _ _ (h.2 i t e x y)⟩
theorem LpTs.snoc {H : Hp} {ts : List Addr} {L : KB.LP} {t : Addr} {e : Int × Int} (h : LpTs H ts L) (ht : H t = some (.tup [.int e.1, .int e.2])) : LpTs H (ts ++ [t]) (L ++ [e]) := by
  refine ⟨by rw [List.length_append, List.length_append, h.1]; rfl, fun i t' e' x y => ?_⟩
  by_cases hi : i < ts.length
  · rw [List.getElem?_append_left hi] at x
    rw [List.getElem?_append_left (by rw [← h.1]; exact hi)] at y
    exact h.2 i t' e' x y
  · rw [List.getElem?_append_right (by omega)] at x
    rw [List.getElem?_append_right (by rw [← h.1]; omega), ← h.1] at y
    cases hz : i - ts.length with
    | zero =>
      rw [hz] at x y
      cases x
      cases y
      exact ht
    | succ j =>
      rw [hz] at x
      simp at x
theorem LpTs.nil (H : Hp) : LpTs H [] [] := ⟨rfl, fun i t e x => by simp at x⟩
/-- the list that is told, as a tuple of tuples -/
def LpAt (H : Hp) (a : Addr) (L : KB.LP) : Prop := ∃ ts : List Addr, H a = some (.tup (ts.map V.ref)) ∧ LpTs H ts L ∧ L.length ≤ sizeLine
theorem LpAt.keep {H H' : Hp} {a : Addr} {L : KB.LP} (s : Same H H') (h : LpAt H a L) : LpAt H' a L := by
  obtain ⟨ts, h1, h2, h3⟩ := h
  exact ⟨ts, s _ _ h1, h2.keep fun b xs e => s _ _ e, h3⟩
/-- what both laurents tell -/
def spLau : Sp := fun vs H Q _ => ∃ (a : Addr) (c : KB.LP), vs = [.ref a] ∧ H a = some (.dK (kc c)) ∧ (c.map (·.1)).Nodup ∧ c.length ≤ sizeLine ∧ ∀ H' p L, Same H H' → KB.Canon L (KB.ac c KB.dl) → LpAt H' p L → Q (.ref p) H'
theorem ok_laurent {f : Addr} {fd : FuncData} (F : Fun K "laurent" "laurent" (topS 16) f fd) (T : Bt mg) : FnOk P w K mg base CX0 1 f fd ["worth"] spLau := by
  refine F.ok sc_laurent (fun vs H Q E h => ?_) (fun cdv A outer s H vs Q E hr h => ?_)
  · obtain ⟨a, c, rfl, _⟩ := h
    rfl
  · obtain ⟨a, c, rfl, ha, nd, hsz, q⟩ := h
    have hu := hu_of hr
    refine ⟨_, pss_one (ps_ret (pe_callTy call_tuple_of (by rfl) T.tuple (by decide +kernel) (pa_cons (pe_lc (own := [("power", 1)]) (g := gName 1) (by rfl) sc_laurent.nd
      (pi_list (pe_callB (cr_sortD rfl) (by rfl) T.sorted (by decide +kernel) (pa_cons (pv 0) pa_nil)))
      (blkOk_by (own := [("power", 1)]) (N := ["worth", "power"]) (sc := defScope (topS 16)) (by decide +kernel)) (fun _ _ _ _ _ => pg_name (i := 1) sc_laurent.nd rfl (Or.inl rfl))
      (fun _ _ _ _ _ => pts_one (pt_cmpR op_ne (pe_dget hu (pv 0) (pv 1) (fun _ _ => rfl)) pe_int (nomark _)))
      (fun _ _ _ _ _ => pe_tup (pa_cons (pv 1) (pa_cons (pe_dget hu (pv 0) (pv 1) (fun _ _ => rfl)) pa_nil)))) pa_nil))), ?_⟩
    refine ⟨_, rfl, a, kc c, c.map (·.1), rfl, .inl ha, kc_keys c, fun ks p hp hu1 np => ?_⟩
    have s1 := same_new (o := .lst (ks.map V.int)) np
    refine ⟨p, rfl, ⟨_, SqL.of upd_same⟩, fun D nD => ?_⟩
    have pD : p ≠ D := ne_of_none upd_same nD
    have hDN : H D = none := s1.free nD
    refine lc_list (xs := ks.map V.int) (fun i H1 => Same H H1 ∧ H1 p = some (.lst (ks.map V.int)) ∧ ∃ ts, H1 D = some (.lst (ts.map V.ref)) ∧ LpTs H1 ts (KB.lau c (ks.take i)))
      ⟨new_same s1 nD, by rw [upd_ne pD]; exact upd_same, [], upd_same, LpTs.nil _⟩ (fun i H1 _ h => SqL.of h.2.1) ?_ ?_
    · rintro i x H1 hx ⟨s2, e1, ts, e2, e3⟩
      rw [List.getElem?_map] at hx
      cases hk : ks[i]? with
      | none => rw [hk] at hx; cases hx
      | some k =>
        rw [hk] at hx
        obtain rfl : V.int k = x := Option.some.inj hx
        obtain ⟨v, hv⟩ := KB.getK_mem (hp.mem_iff.mp (List.mem_of_getElem? hk))
        have hv' : valV (kc c) (Sum.inl k : Key) = some (.int v) := by rw [kc_val, hv]; rfl
        have g1 := s2 _ _ ha
        have dg : DGet H1 a (.int k) (some (.int v)) := hv' ▸ DGet.k (k := Sum.inl k) g1
        have hts : ts.length < sizeLine := by
          have h1 := KB.len_lau c (ks.take i)
          rw [List.length_take] at h1
          have h2 := e3.1
          have h3 := (List.getElem?_eq_some_iff.mp hk).1
          have h4 := hp.length_eq
          rw [List.length_map] at h4
          omega
        refine ⟨rfl, ?_⟩
        refine ⟨_, rfl, _, rfl, a, _, rfl, dg, rfl, _, rfl, ?_⟩
        have et : ks.take (i + 1) = ks.take i ++ [k] := take_succ hk
        by_cases hz : v = 0
        · subst hz
          refine iteF ⟨s2, e1, ts, e2, ?_⟩
          rw [et, KB.lau_snoc, hv]
          show LpTs H1 ts (KB.lau c (ks.take i) ++ [])
          rw [List.append_nil]
          exact e3
        · rw [decide_eq_false (fun z => hz (V.int.inj z))]
          refine iteT ?_
          refine ⟨_, rfl, _, rfl, _, rfl, a, _, rfl, dg, by show 2 ≤ sizeLine; decide, fun t nt => ?_⟩
          have Dt : D ≠ t := ne_of_none e2 nt
          refine ⟨_, by rw [upd_ne Dt]; exact e2, by rw [List.length_map]; exact hts, put_same (new_same s2 nt) hDN, ?_, ts ++ [t], ?_, ?_⟩
          · rw [upd_ne pD, upd_ne (ne_of_none e1 nt)]
            exact e1
          · rw [upd_same, List.map_append]
            rfl
          · rw [et, KB.lau_snoc, hv]
            show LpTs _ _ (KB.lau c (ks.take i) ++ (if (v != 0) = true then [(k, v)] else []))
            rw [if_pos (by simpa using hz)]
            have keep : ∀ b xs, H1 b = some (.tup xs) → (upd (upd H1 t (.tup [.int k, .int v])) D (.lst (ts.map V.ref ++ [.ref t]))) b = some (.tup xs) := fun b xs e => by
              rw [upd_ne (some_ne e e2), upd_ne (ne_of_none e nt)]
              exact e
            exact (e3.keep keep).snoc (by rw [upd_ne Dt.symm]; exact upd_same)
    · rintro H1 ⟨s2, e1, ts, e2, e3⟩
      rw [List.length_map, List.take_of_length_le (Nat.le_refl _)] at e3
      have lenL : (KB.lau c ks).length ≤ sizeLine := by
        have h1 := KB.len_lau c ks
        have h4 := hp.length_eq
        rw [List.length_map] at h4
        omega
      refine ⟨D, _, rfl, .inl ⟨SqL.of e2, fun l nl => ?_⟩⟩
      refine q _ l _ (new_same s2 nl) (KB.canon_lau nd hp hu1) ⟨ts, upd_same, e3.keep fun b xs e => ?_, lenL⟩
      rw [upd_ne (ne_of_none e nl)]
      exact e
end
end KP

set_option Elab.async false
set_option linter.all false
set_option maxRecDepth 100000
set_option maxHeartbeats 4000000
namespace KP
open PySem PySem.Spec L2 KN
open PyProof.Rows hiding St
theorem sc_word : FnScope ["word", "n", "number"] ["word", "n"] (defScope (topS 19)) := ⟨rfl, rfl, rfl, by decide +kernel, rfl, by decide +kernel, by decide +kernel⟩
theorem sc_braid : FnScope ["n", "word"] ["n", "word"] (defScope (topS 20)) := ⟨rfl, rfl, rfl, by decide +kernel, rfl, by decide +kernel, by decide +kernel⟩
theorem sc_writhe : FnScope ["word", "number"] ["word"] (defScope (topS 22)) := ⟨rfl, rfl, rfl, by decide +kernel, rfl, by decide +kernel, by decide +kernel⟩
section
variable {P : Program} {w : World} {K : PySem.W.Frag} {mg : Str → Option Value} {base : Heap}
def spWord : Sp := fun vs H Q _ => ∃ (a : Addr) (l : List Int) (n : Nat), vs = [.ref a, .int n] ∧ H a = some (.tup (vi l)) ∧ (∀ c ∈ l, c ≠ 0 ∧ (0 < n → c.natAbs < n)) ∧ Q .non H
theorem ok_word {f : Addr} {fd : FuncData} (F : Fun K "check_word" "check_word" (topS 19) f fd) (T : Bt mg) : FnOk P w K mg base CX0 1 f fd ["word", "n"] spWord := by
  refine F.ok sc_word (fun vs H Q E h => ?_) (fun cdv A outer s H vs Q E hr h => ?_)
  · obtain ⟨a, l, n, rfl, _⟩ := h
    rfl
  · obtain ⟨a, l, n, rfl, ha, hw, q⟩ := h
    refine ⟨_, pss_one (ps_for PassesOwn.never rfl (pi_tup (pv 0)) (pg_name (i := 2) sc_word.nd rfl (.inl rfl))
      (pss_one (ps_if (pw_or (pt_cmpR op_eq (pv 2) pe_int (nomark _)) (pw_or1 (pw_and (pt_cmpR op_gt (pv 1) pe_int (nomark _)) (pw_and1 (pt_cmpR op_ge (pe_callB call_abs (by rfl) T.abs (by decide +kernel) (pa_cons (pv 2) pa_nil)) (pv 1) (nomark _)))).pt)).pt (pss_one ps_never) pss_nil))), ?_⟩
    refine ⟨_, rfl, a, rfl, ⟨_, SqT.of ha⟩, ?_⟩
    refine for_tup (xs := vi l) (fun i σ H1 => ∃ y, σ = [some (.ref a), some (.int n), y] ∧ H1 = H) ⟨none, rfl, rfl⟩ (fun i σ H1 _ h => by obtain ⟨_, _, rfl⟩ := h; exact SqT.of ha) ?_ ?_
    · rintro i x σ H1 hx ⟨y, rfl, rfl⟩
      obtain ⟨c, hc, rfl⟩ := vi_get hx
      obtain ⟨h1, h2⟩ := hw c (List.mem_of_getElem? hc)
      refine ⟨_, rfl, rfl, _, rfl, ?_⟩
      rw [dec_ne h1]
      refine iteF ⟨_, rfl, _, _, rfl, rfl, _, rfl, ite2 (fun e => ?_) fun e => iteF ⟨_, rfl, rfl⟩⟩
      have e' : (0 : Int) < n := of_decide_eq_true e
      have h3 := h2 (by omega)
      refine ⟨_, rfl, _, rfl, _, rfl, _, _, rfl, rfl, _, rfl, ?_⟩
      rw [decide_eq_false (by show ¬ (n : Int) ≤ (if c < 0 then -c else c); split <;> omega)]
      exact iteF ⟨_, rfl, rfl⟩
    · rintro σ H1 ⟨y, rfl, rfl⟩
      exact q
def spBraid : Sp := fun vs H Q _ => ∃ (a : Addr) (l : List Int) (n : Nat), vs = [.int n, .ref a] ∧ H a = some (.tup (vi l)) ∧ 0 < n ∧ KB.Word n l ∧ Q .non H
theorem ok_braid {f : Addr} {fd : FuncData} (F : Fun K "check_braid" "check_braid" (topS 20) f fd) (c : Cal P w K mg base "check_word" 1 ["word", "n"] spWord) : FnOk P w K mg base CX0 2 f fd ["n", "word"] spBraid := by
  refine F.ok sc_braid (fun vs H Q E h => ?_) (fun cdv A outer s H vs Q E hr h => ?_)
  · obtain ⟨a, l, n, rfl, _⟩ := h
    rfl
  · obtain ⟨a, l, n, rfl, ha, h0, hw, q⟩ := h
    refine ⟨_, pss_cons (ps_if (pt_cmpR op_lt (pv 0) pe_int (nomark _)) (pss_one ps_never) pss_nil) (pss_one (ps_expr (pe_cal c hr (by rfl) (pa_cons (pv 1) (pa_cons (pv 0) pa_nil))))), ?_⟩
    refine ⟨_, rfl, _, _, rfl, rfl, _, rfl, ite2 (fun e => ?_) fun _ => ?_⟩
    · have := of_decide_eq_true e
      omega
    · exact ⟨_, rfl, _, rfl, a, l, n, rfl, ha, fun c hc => ⟨(hw c hc).1, fun _ => (hw c hc).2⟩, q⟩
def posL (l : List Int) : List Int := l.filter fun c => decide (0 < c)
def negL (l : List Int) : List Int := l.filter fun c => decide (c < 0)
theorem wr_len : ∀ l : List Int, (∀ c ∈ l, c ≠ 0) → ((posL l).length : Int) - ((negL l).length : Int) = KB.wr l
  | [], _ => rfl
  | c :: l, h => by
    have ih := wr_len l fun d hd => h d (List.mem_cons_of_mem _ hd)
    have h0 := h c List.mem_cons_self
    rw [KB.wr_cons, ← ih]
    unfold posL negL
    rw [List.filter_cons, List.filter_cons]
    by_cases q : c < 0
    · rw [if_neg (by simp; omega), if_pos (by simp [q]), List.length_cons, show KB.sg c = -1 by unfold KB.sg; rw [if_pos q]]
      omega
    · rw [if_pos (by simp; omega), if_neg (by simp [q]), List.length_cons, show KB.sg c = 1 by unfold KB.sg; rw [if_neg q]]
      omega
def spWrithe : Sp := fun vs H Q _ => ∃ (a : Addr) (l : List Int), vs = [.ref a] ∧ H a = some (.tup (vi l)) ∧ (∀ c ∈ l, c ≠ 0) ∧ l.length ≤ 1000 ∧ ∀ H', Same H H' → Q (.int (KB.wr l)) H'
theorem ok_writhe {f : Addr} {fd : FuncData} (F : Fun K "writhe" "writhe" (topS 22) f fd) (T : Bt mg) (c : Cal P w K mg base "check_word" 1 ["word", "n"] spWord) : FnOk P w K mg base CX0 2 f fd ["word"] spWrithe := by
  refine F.ok sc_writhe (fun vs H Q E h => ?_) (fun cdv A outer s H vs Q E hr h => ?_)
  · obtain ⟨a, l, rfl, _⟩ := h
    rfl
  · obtain ⟨a, l, rfl, ha, hw, hl, q⟩ := h
    refine ⟨_, pss_cons (ps_expr (pe_cal c hr (by rfl) (pa_cons (pv 0) (pa_cons pe_int pa_nil))))
      (pss_one (ps_ret (pe_op op_sub
        (pe_callB call_len (by rfl) T.len (by decide +kernel) (pa_cons (pe_lc (own := [("number", 1)]) (g := gName 1) (by rfl) sc_writhe.nd (pi_tup (pv 0)) (blkOk_by (own := [("number", 1)]) (N := ["word", "number"]) (sc := defScope (topS 22)) (by decide +kernel))
          (fun _ _ _ _ _ => pg_name (i := 1) sc_writhe.nd rfl (Or.inl rfl)) (fun _ _ _ _ _ => pts_one (pt_cmpR op_gt (pv 1) pe_int (nomark _))) (fun _ _ _ _ _ => pv 1)) pa_nil))
        (pe_callB call_len (by rfl) T.len (by decide +kernel) (pa_cons (pe_lc (own := [("number", 1)]) (g := gName 1) (by rfl) sc_writhe.nd (pi_tup (pv 0)) (blkOk_by (own := [("number", 1)]) (N := ["word", "number"]) (sc := defScope (topS 22)) (by decide +kernel))
          (fun _ _ _ _ _ => pg_name (i := 1) sc_writhe.nd rfl (Or.inl rfl)) (fun _ _ _ _ _ => pts_one (pt_cmpR op_lt (pv 1) pe_int (nomark _))) (fun _ _ _ _ _ => pv 1)) pa_nil))))), ?_⟩
    refine ⟨_, rfl, a, l, 0, rfl, ha, fun c hc => ⟨hw c hc, fun z => absurd z (by decide)⟩, ?_⟩
    refine ⟨_, rfl, a, rfl, ⟨_, SqT.of ha⟩, fun D nD => ?_⟩
    have hDN := nD
    have fl : ∀ (p : Int → Bool) (i : Nat), ((l.take i).filter p).length < sizeLine := fun p i => by
      have h1 := List.length_filter_le p (l.take i)
      rw [List.length_take] at h1
      rw [sizeLine_eq]
      omega
    refine lc_tup (xs := vi l) (fun i H1 => Same H H1 ∧ H1 D = some (.lst (vi (posL (l.take i))))) ⟨same_new nD, upd_same⟩ (fun i H1 _ h => SqT.of (h.1 _ _ ha)) ?_ ?_
    · rintro i x H1 hx ⟨s1, e1⟩
      obtain ⟨c, hc, rfl⟩ := vi_get hx
      refine ⟨rfl, _, rfl, _, _, rfl, rfl, _, rfl, ?_⟩
      have et : posL (l.take (i + 1)) = posL (l.take i) ++ (if decide (0 < c) = true then [c] else []) := by
        unfold posL
        rw [List.take_add_one, hc]
        show List.filter _ (_ ++ [c]) = _
        rw [List.filter_append, List.filter_cons]
        rfl
      refine ite2 (fun e => ?_) fun e => ?_
      · have e' : (0 : Int) < c := of_decide_eq_true e
        refine ⟨_, rfl, _, e1, by rw [List.length_map]; exact fl _ _, put_same s1 hDN, ?_⟩
        (rw [upd_same, et, if_pos (decide_eq_true e'), vi_app]; rfl)
      · have e' : ¬ (0 : Int) < c := fun z => e (decide_eq_true z)
        refine ⟨s1, ?_⟩
        rw [e1, et, if_neg (by simpa using e'), List.append_nil]
    · rintro H1 ⟨s1, e1⟩
      rw [List.length_map, List.take_of_length_le (Nat.le_refl _)] at e1
      refine ⟨_, (posL l).length, rfl, .inl ⟨_, SqL.of e1, by rw [List.length_map]⟩, ?_⟩
      refine ⟨_, rfl, a, rfl, ⟨_, SqT.of (s1 _ _ ha)⟩, fun D2 nD2 => ?_⟩
      have hD2 : H D2 = none := s1.free nD2
      refine lc_tup (xs := vi l) (fun i H1 => Same H H1 ∧ H1 D2 = some (.lst (vi (negL (l.take i))))) ⟨new_same s1 nD2, upd_same⟩ (fun i H1 _ h => SqT.of (h.1 _ _ ha)) ?_ ?_
      · rintro i x H2 hx ⟨s2, e2⟩
        obtain ⟨c, hc, rfl⟩ := vi_get hx
        refine ⟨rfl, _, rfl, _, _, rfl, rfl, _, rfl, ?_⟩
        have et : negL (l.take (i + 1)) = negL (l.take i) ++ (if decide (c < 0) = true then [c] else []) := by
          unfold negL
          rw [List.take_add_one, hc]
          show List.filter _ (_ ++ [c]) = _
          rw [List.filter_append, List.filter_cons]
          rfl
        refine ite2 (fun e => ?_) fun e => ?_
        · have e' : c < (0 : Int) := of_decide_eq_true e
          refine ⟨_, rfl, _, e2, by rw [List.length_map]; exact fl _ _, put_same s2 hD2, ?_⟩
          (rw [upd_same, et, if_pos (decide_eq_true e'), vi_app]; rfl)
        · have e' : ¬ c < (0 : Int) := fun z => e (decide_eq_true z)
          refine ⟨s2, ?_⟩
          rw [e2, et, if_neg (by simpa using e'), List.append_nil]
      · rintro H2 ⟨s2, e2⟩
        rw [List.length_map, List.take_of_length_le (Nat.le_refl _)] at e2
        refine ⟨_, (negL l).length, rfl, .inl ⟨_, SqL.of e2, by rw [List.length_map]⟩, _, _, rfl, rfl, ?_⟩
        show Q (.int (((posL l).length : Int) - ((negL l).length : Int))) H2
        rw [wr_len l hw]
        exact q H2 s2
end
end KP

set_option Elab.async false
set_option linter.all false
set_option maxRecDepth 100000
set_option maxHeartbeats 4000000
/-! KB3: a dict of mats with their dicts. -/
namespace KP
open PySem PySem.Spec L2 KN
open PyProof.Rows hiding St
/-! ### mats as keys -/
def nkey (l : List Nat) : List NestedKey := l.map fun (k : Nat) => NestedKey.num (k : Int)
def mkey (n : Nat) (l : List Nat) : NestedKey := .tup [.num n, .num n, .tup (nkey l)]
theorem keys_vn {H : Hp} : ∀ l : List Nat, KeyVs H (nkey l) (vn l)
  | [] => .nil
  | k :: l => .cons (.num k) (keys_vn l)
theorem keys_vn_inv {H : Hp} : ∀ (l : List Nat) (xs : List V), KeyVs H (nkey l) xs → xs = vn l
  | [], _, h => by cases h; rfl
  | k :: l, _, h => by
    cases h with
    | cons a b =>
      cases a
      rw [keys_vn_inv l _ b]
      rfl
theorem key_mat {H : Hp} {b : Addr} {n : Nat} {l : List Nat} (h : MatH H b n n l) : KeyV H (mkey n l) (.ref b) := by
  obtain ⟨c, h1, h2⟩ := h
  exact .tup h1 (.cons (.num _) (.cons (.num _) (.cons (.tup h2 (keys_vn l)) .nil)))
theorem mat_key {H : Hp} {b : Addr} {n : Nat} {l : List Nat} (h : KeyV H (mkey n l) (.ref b)) : MatH H b n n l := by
  cases h with
  | tup h1 h2 =>
    cases h2 with
    | cons a1 h3 =>
      cases a1
      cases h3 with
      | cons a2 h4 =>
        cases a2
        cases h4 with
        | cons a3 h5 =>
          cases h5
          cases a3 with
          | tup e q => exact ⟨_, h1, by rw [e, keys_vn_inv l _ q]⟩
theorem depth_nkey : ∀ l : List Nat, NestedKey.depthAll (nkey l) = 0
  | [] => rfl
  | k :: l => by
    show max (NestedKey.depth (.num (k : Int))) (NestedKey.depthAll (nkey l)) = 0
    rw [depth_nkey l]
    rfl
theorem depth_mkey (n : Nat) (l : List Nat) : (mkey n l).depth ≤ 8 := by
  have h : (mkey n l).depth = 2 := by
    show max 0 (max 0 (max (NestedKey.depthAll (nkey l) + 1) 0)) + 1 = 2
    rw [depth_nkey]
    rfl
  omega
theorem nkey_inj : ∀ (l m : List Nat), nkey l = nkey m → l = m
  | [], [], _ => rfl
  | [], _ :: _, h => by cases h
  | _ :: _, [], h => by cases h
  | a :: l, b :: m, h => by
    have h1 : NestedKey.num (a : Int) = .num (b : Int) := (List.cons.inj h).1
    have h2 := nkey_inj l m (List.cons.inj h).2
    have h3 : (a : Int) = (b : Int) := NestedKey.num.inj h1
    rw [h2, show a = b by omega]
theorem mkey_inj {n : Nat} {l m : List Nat} (h : mkey n l = mkey n m) : l = m := by
  have h1 := NestedKey.tup.inj h
  have h2 := (List.cons.inj (List.cons.inj (List.cons.inj h1).2).2).1
  exact nkey_inj l m (NestedKey.tup.inj h2)
/-- the key of the x-th mat -/
abbrev xk (n x : Nat) : NestedKey := mkey n (KB.mat n x)
theorem xk_inj {n x y : Nat} (hn : n < 6) (hx : x < KB.num n) (hy : y < KB.num n) (h : xk n x = xk n y) : x = y := KB.mat_inj hn hx hy (mkey_inj h)

/-! ### the table -/
abbrev TRel (n : Nat) (H : Hp) : List En → KB.Tab → Prop := Paired fun e t => e.1 = xk n t.1 ∧ ∃ d, e.2.2 = .ref d ∧ H d = some (.dK (kc t.2))
/-- at a stands the table tab; its dicts are new over B -/
structure TabX (P : Program) (w : World) (B H : Hp) (a : Addr) (n : Nat) (xs : List En) (tab : KB.Tab) : Prop where
  dn : DN P w H a xs
  rel : TRel n H xs tab
  nd : (xs.map (·.2.2)).Nodup
  new : ∀ e ∈ xs, ∀ d, e.2.2 = .ref d → B d = none
theorem kc_inj : ∀ {c d : KB.LP}, kc c = kc d → c = d
  | [], [], _ => rfl
  | [], _ :: _, h => by cases h
  | _ :: _, [], h => by cases h
  | a :: c, b :: d, h => by
    have h1 := (List.cons.inj h).1
    have h2 := kc_inj (List.cons.inj h).2
    have e1 : a.1 = b.1 := Sum.inl.inj (congrArg Prod.fst h1)
    have e2 : a.2 = b.2 := V.int.inj (congrArg Prod.snd h1)
    obtain ⟨a1, a2⟩ := a
    obtain ⟨b1, b2⟩ := b
    simp only at e1 e2
    subst e1 e2 h2
    rfl
theorem TRel.keep {n : Nat} {H H' : Hp} {xs : List En} {tab : KB.Tab} (r : TRel n H xs tab) (h : ∀ e ∈ xs, ∀ d c, e.2.2 = .ref d → H d = some (.dK (kc c)) → H' d = some (.dK (kc c))) : TRel n H' xs tab := by
  induction r with
  | nil => exact .nil
  | @cons p q ps qs hq t ih =>
    obtain ⟨h1, d, h2, h3⟩ := hq
    exact .cons ⟨h1, d, h2, h p List.mem_cons_self d _ h2 h3⟩ (ih fun e he => h e (List.mem_cons_of_mem _ he))
theorem TabX.keep {P : Program} {w : World} {B H H' : Hp} {a : Addr} {n : Nat} {xs : List En} {tab : KB.Tab} (x : TabX P w B H a n xs tab) (s : Same H H') : TabX P w B H' a n xs tab :=
  ⟨x.dn.keep s, x.rel.keep fun _ _ _ _ _ h => s _ _ h, x.nd, x.new⟩
theorem TRel.length {n : Nat} {H : Hp} {xs : List En} {tab : KB.Tab} (r : TRel n H xs tab) : xs.length = tab.length := Paired.length r
/-- what stands at a mat's key -/
theorem TRel.val {n x : Nat} {H : Hp} {xs : List En} {tab : KB.Tab} (hn : n < 6) (hx : x < KB.num n) (r : TRel n H xs tab) (hl : ∀ e ∈ tab, e.1 < KB.num n) :
    (valN xs (xk n x) = none ∧ x ∉ tab.map (·.1)) ∨ ∃ d c, valN xs (xk n x) = some (.ref d) ∧ (x, c) ∈ tab ∧ H d = some (.dK (kc c)) ∧ ∃ e ∈ xs, e.2.2 = .ref d := by
  induction r with
  | nil => exact .inl ⟨rfl, by simp⟩
  | @cons p q ps qs hq t ih =>
    obtain ⟨h1, d, h2, h3⟩ := hq
    by_cases e : q.1 = x
    · refine .inr ⟨d, q.2, ?_, ?_, h3, p, List.mem_cons_self, h2⟩
      · rw [valN_pos (by rw [h1, e]), h2]
      · obtain ⟨q1, q2⟩ := q
        simp only at e
        subst e
        exact List.mem_cons_self
    · have hk : ¬ p.1 = xk n x := fun z => e (xk_inj hn (hl q List.mem_cons_self) hx (h1.symm.trans z))
      rw [valN_neg hk]
      rcases ih fun e he => hl e (List.mem_cons_of_mem _ he) with ⟨k1, k2⟩ | ⟨d', c, k1, k2, k3, e', k4, k5⟩
      · refine .inl ⟨k1, fun z => ?_⟩
        rw [List.map_cons, List.mem_cons] at z
        rcases z with z | z
        · exact e z.symm
        · exact k2 z
      · exact .inr ⟨d', c, k1, List.mem_cons_of_mem _ k2, k3, e', List.mem_cons_of_mem _ k4, k5⟩
/-- a dict of the table has grown -/
theorem TRel.grown {n x : Nat} {H H2 : Hp} {xs : List En} {tab : KB.Tab} {d : Addr} {c dd : KB.LP} {s : Int} (hn : n < 6) (hx : x < KB.num n) (r : TRel n H xs tab) (hl : ∀ e ∈ tab, e.1 < KB.num n) (nd : (tab.map (·.1)).Nodup) (ndv : (xs.map (·.2.2)).Nodup)
    (hv : valN xs (xk n x) = some (.ref d)) (hd : H d = some (.dK (kc c))) (sm : SmB d H H2) (hd2 : H2 d = some (.dK (kc (KB.addI c dd s 1)))) : TRel n H2 xs (tab.map fun e => if e.1 = x then (e.1, KB.addI e.2 dd s 1) else e) := by
  induction r with
  | nil => exact .nil
  | @cons p q ps qs hq t ih =>
    obtain ⟨h1, d0, h2, h3⟩ := hq
    rw [List.map_cons] at nd ndv
    obtain ⟨n1, n2⟩ := List.nodup_cons.mp nd
    obtain ⟨m1, m2⟩ := List.nodup_cons.mp ndv
    rw [List.map_cons]
    by_cases e : q.1 = x
    · rw [if_pos e, KB.map_same' (fun e => (e.1, KB.addI e.2 dd s 1)) qs (e ▸ n1)]
      rw [valN_pos (by rw [h1, e]), h2] at hv
      obtain rfl : d0 = d := V.ref.inj (Option.some.inj hv)
      rw [h3] at hd
      have ec : q.2 = c := kc_inj (HO.dK.inj (Option.some.inj hd))
      refine .cons ⟨h1, d0, h2, by rw [ec]; exact hd2⟩ ?_
      refine TRel.keep t fun e' he' d' c' k1 k2 => sm _ _ k2 fun z => ?_
      subst z
      exact m1 (List.mem_map.mpr ⟨e', he', k1.trans h2.symm⟩)
    · rw [if_neg e]
      have hk : ¬ p.1 = xk n x := fun z => e (xk_inj hn (hl q List.mem_cons_self) hx (h1.symm.trans z))
      rw [valN_neg hk] at hv
      refine .cons ⟨h1, d0, h2, sm _ _ h3 fun z => ?_⟩ (ih (fun e he => hl e (List.mem_cons_of_mem _ he)) n2 m2 hv)
      subst z
      rcases TRel.val hn hx t fun e he => hl e (List.mem_cons_of_mem _ he) with ⟨k1, _⟩ | ⟨d', c', k1, _, _, e', k4, k5⟩
      · rw [k1] at hv
        cases hv
      · rw [k1] at hv
        obtain rfl : d' = d0 := V.ref.inj (Option.some.inj hv)
        exact m1 (List.mem_map.mpr ⟨e', k4, k5.trans h2.symm⟩)
theorem putN_new {xs : List En} {k : NestedKey} {b : Addr} {v : V} (h : valN xs k = none) : putN xs k b v = xs ++ [(k, b, v)] := by
  unfold putN
  rw [h]
  rfl
section
variable {P : Program} {w : World} {B H : Hp} {a : Addr} {n x : Nat} {xs : List En} {tab : KB.Tab}
/-- found.setdefault(mat, {}), the new dict at p: the table, and the dict d that is told -/
theorem TabX.setd {b p : Addr} (hn : n < 6) (hx : x < KB.num n) (X : TabX P w B H a n xs tab) (hl : ∀ e ∈ tab, e.1 < KB.num n) (np : H p = none) (bp : B p = none) {Q : V → Hp → Prop}
    (h : ∀ (H1 : Hp) (xs1 : List En) (tab1 : KB.Tab) (d : Addr) (c : KB.LP), TabX P w B H1 a n xs1 tab1 → (∀ y o, H y = some o → y ≠ a → H1 y = some o) → valN xs1 (xk n x) = some (.ref d) → H1 d = some (.dK (kc c)) → B d = none →
      ((tab1 = tab ∧ (x, c) ∈ tab) ∨ (x ∉ tab.map (·.1) ∧ tab1 = tab ++ [(x, [])] ∧ c = [])) → Q (.ref d) H1) :
    SetdQ P w (upd H p (.dK [])) a b xs (xk n x) (.ref p) Q := by
  have X1 := X.keep (same_new (o := .dK []) np)
  refine ⟨fun v hv => ?_, fun hv dn => ?_⟩
  · rcases X1.rel.val hn hx hl with ⟨k1, _⟩ | ⟨d, c, k1, k2, k3, e, k4, k5⟩
    · rw [k1] at hv
      cases hv
    · rw [k1] at hv
      obtain rfl : V.ref d = v := Option.some.inj hv
      exact h _ xs tab d c X1 (fun y o e _ => by rw [upd_ne (ne_of_none e np)]; exact e) k1 k3 (X.new e k4 d k5) (.inl ⟨rfl, k2⟩)
  · rcases X1.rel.val hn hx hl with ⟨_, k2⟩ | ⟨d, c, k1, _⟩
    · rw [putN_new hv] at dn ⊢
      have pa : a ≠ p := ne_of_none X.dn.2 np
      have old : ∀ y o, H y = some o → y ≠ a → (upd (upd H p (.dK [])) a (nO P w a (xs ++ [(xk n x, b, V.ref p)]))) y = some o := fun y o e hy => by
        rw [upd_ne hy, upd_ne (ne_of_none e np)]
        exact e
      have hp : (upd (upd H p (.dK [])) a (nO P w a (xs ++ [(xk n x, b, V.ref p)]))) p = some (.dK (kc [])) := by
        rw [upd_ne pa.symm, upd_same]
        rfl
      have notin : ∀ e ∈ xs, e.2.2 ≠ .ref p := fun e he z => by
        have : ∀ {ys : List En} {t : KB.Tab}, TRel n H ys t → ∀ e ∈ ys, ∃ d c, e.2.2 = .ref d ∧ H d = some (.dK (kc c)) := by
          intro ys t r
          induction r with
          | nil => intro e he; exact nomatch he
          | @cons p q ps qs hq t ih =>
            intro e he
            rcases List.mem_cons.mp he with z | he
            · subst z
              obtain ⟨_, d, h2, h3⟩ := hq
              exact ⟨d, _, h2, h3⟩
            · exact ih e he
        obtain ⟨d, c, h1, h2⟩ := this X.rel e he
        rw [h1] at z
        cases z
        rw [np] at h2
        cases h2
      have rel : TRel n (upd (upd H p (.dK [])) a (nO P w a (xs ++ [(xk n x, b, V.ref p)]))) (xs ++ [(xk n x, b, V.ref p)]) (tab ++ [(x, [])]) :=
        Paired.snoc (X.rel.keep fun e he d c h1 h2 => old d _ h2 (some_ne h2 X.dn.2)) ⟨rfl, p, rfl, hp⟩
      refine h _ _ _ p [] ⟨dn, rel, ?_, fun e he d hd => ?_⟩ old ?_ hp bp (.inr ⟨k2, rfl, rfl⟩)
      · rw [List.map_append]
        refine List.nodup_append.mpr ⟨X.nd, List.nodup_cons.mpr ⟨by simp, List.nodup_nil⟩, fun u hu v hv2 e => ?_⟩
        have ev : v = V.ref p := by simpa using hv2
        obtain ⟨e0, he0, rfl⟩ := List.mem_map.mp hu
        exact notin e0 he0 (e.trans ev)
      · rcases List.mem_append.mp he with q | q
        · exact X.new e q d hd
        · have : e = (xk n x, b, V.ref p) := by simpa using q
          subst this
          cases hd
          exact bp
      · have : ∀ (ys : List En), valN ys (xk n x) = none → valN (ys ++ [(xk n x, b, V.ref p)]) (xk n x) = some (.ref p) := by
          intro ys
          induction ys with
          | nil => intro _; exact valN_pos rfl
          | cons y ys ih =>
            intro hy
            by_cases z : y.1 = xk n x
            · rw [valN_pos z] at hy
              cases hy
            · rw [valN_neg z] at hy
              show valN (y :: (ys ++ _)) _ = _
              rw [valN_neg z]
              exact ih hy
        exact this xs hv
    · rw [k1] at hv
      cases hv
/-- .. and add_into behind it -/
theorem TabX.added {H1 H2 : Hp} {xs1 : List En} {tab1 : KB.Tab} {d : Addr} {c dd : KB.LP} {s : Int} (hn : n < 6) (hx : x < KB.num n) (X1 : TabX P w B H1 a n xs1 tab1) (hl : ∀ e ∈ tab, e.1 < KB.num n) (nd : (tab.map (·.1)).Nodup)
    (hv : valN xs1 (xk n x) = some (.ref d)) (hd : H1 d = some (.dK (kc c))) (ht : (tab1 = tab ∧ (x, c) ∈ tab) ∨ (x ∉ tab.map (·.1) ∧ tab1 = tab ++ [(x, [])] ∧ c = [])) (sm : SmB d H1 H2) (hd2 : H2 d = some (.dK (kc (KB.addI c dd s 1)))) :
    TabX P w B H2 a n xs1 (KB.upT tab x dd s) := by
  have da : a ≠ d := some_ne X1.dn.2 hd
  have hl1 : ∀ e ∈ tab1, e.1 < KB.num n := by
    rcases ht with ⟨rfl, _⟩ | ⟨_, rfl, _⟩
    · exact hl
    · intro e he
      rcases List.mem_append.mp he with q | q
      · exact hl e q
      · have : e = (x, []) := by simpa using q
        rw [this]
        exact hx
  have nd1 : (tab1.map (·.1)).Nodup := by
    rcases ht with ⟨rfl, _⟩ | ⟨k, rfl, _⟩
    · exact nd
    · rw [List.map_append]
      refine List.nodup_append.mpr ⟨nd, List.nodup_cons.mpr ⟨by simp, List.nodup_nil⟩, fun u hu v hv2 e => ?_⟩
      have ev : v = x := by simpa using hv2
      exact k (ev ▸ e ▸ hu)
  have r := X1.rel.grown (dd := dd) (s := s) hn hx hl1 nd1 X1.nd hv hd sm hd2
  have et : (tab1.map fun e => if e.1 = x then (e.1, KB.addI e.2 dd s 1) else e) = KB.upT tab x dd s := by
    unfold KB.upT
    rcases ht with ⟨rfl, k⟩ | ⟨k, rfl, _⟩
    · rw [if_pos (List.mem_map.mpr ⟨_, k, rfl⟩)]
    · rw [if_neg k, List.map_append, KB.map_same' (fun e => (e.1, KB.addI e.2 dd s 1)) tab k]
      show tab ++ [if x = x then (x, KB.addI [] dd s 1) else (x, [])] = _
      rw [if_pos rfl]
  rw [et] at r
  refine ⟨⟨X1.dn.1.keep fun b ys e => sm _ _ e (some_ne e hd), sm _ _ X1.dn.2 da⟩, r, X1.nd, X1.new⟩
end
end KP

set_option Elab.async false
set_option linter.all false
set_option maxRecDepth 100000
set_option maxHeartbeats 4000000
namespace KP
open PySem PySem.Spec L2 KN
open PyProof.Rows hiding St
theorem sc_worths : FnScope ["n", "word", "table", "number", "behind", "shift", "found", "mat", "worth", "rings", "above", "below", "mates"] ["n", "word"] (defScope (topS 21)) := ⟨rfl, rfl, rfl, by decide +kernel, rfl, by decide +kernel, by decide +kernel⟩
theorem abs_ix {c : Int} (h : c ≠ 0) : (if c < 0 then -c else c) - 1 = ((KB.ix c : Nat) : Int) := by
  unfold KB.ix
  split <;> omega
theorem SmB.tup {a : Addr} {H H' : Hp} {u : HO} (s : SmB a H H') (h : H a = some u) (d : ∀ xs, u ≠ .tup xs) : ∀ b xs, H b = some (.tup xs) → H' b = some (.tup xs) := fun b xs e => s b _ e fun z => by
  rw [z, h] at e
  exact d xs (Option.some.inj e)
theorem TRel.get {n : Nat} {H : Hp} {xs : List En} {tab : KB.Tab} (r : TRel n H xs tab) : ∀ {i : Nat} {e : En}, xs[i]? = some e → ∃ t d, tab[i]? = some t ∧ e.1 = xk n t.1 ∧ e.2.2 = .ref d ∧ H d = some (.dK (kc t.2)) := by
  induction r with
  | nil => intro i e h; simp at h
  | @cons p q ps qs hq t ih =>
    intro i e h
    cases i with
    | zero =>
      obtain rfl : p = e := Option.some.inj (by simpa using h)
      obtain ⟨h1, d, h2, h3⟩ := hq
      exact ⟨q, d, rfl, h1, h2, h3⟩
    | succ i =>
      obtain ⟨t', d, k⟩ := ih (i := i) (e := e) (by simpa using h)
      exact ⟨t', d, by simpa using k⟩
section
variable {P : Program} {w : World} {K : PySem.W.Frag} {mg : Str → Option Value} {base : Heap}
def spWorths (P : Program) (w : World) : Sp := fun vs H Q _ => ∃ (a : Addr) (l : List Int) (n : Nat), vs = [.int n, .ref a] ∧ H a = some (.tup (vi l)) ∧ 0 < n ∧ n < 6 ∧ KB.Word n l ∧ l.length ≤ 12 ∧
  ∀ H' p xs, Same H H' → H p = none → TabX P w H H' p n xs (KB.tabOf n l) → Q (.ref p) H'
theorem ok_worths {f : Addr} {fd : FuncData} (F : Fun K "worths_of" "worths_of" (topS 21) f fd) (T : Bt mg) (cS : Cal P w K mg base "straight" 2 ["n"] spStraight) (cH : Cal P w K mg base "hook" 3 ["n", "i"] spHook)
    (cA : CalD P w K mg base "add_into" 1 ["worth", "other", "shift", "factor"] spAdd (.int 1)) (cP : Cal P w K mg base "put_behind" 2 ["one", "other"] spPut) (cR : Cal P w K mg base "with_rings" 2 ["worth", "rings"] spRings) :
    FnOk P w K mg base CX0 4 f fd ["n", "word"] (spWorths P w) := by
  refine F.ok sc_worths (fun vs H Q E h => ?_) (fun cdv A outer s H vs Q E hr h => ?_)
  · obtain ⟨a, l, n, rfl, _⟩ := h
    rfl
  · obtain ⟨a, l, n, rfl, ha, h0, h6, hw, h12, q⟩ := h
    have hu := hr.units
    have hr1 : Room 1 _ := hr.mono (by decide)
    have hr2 : Room 2 _ := hr.mono (by decide)
    refine ⟨_, pss_cons (ps_set (i := 2) sc_worths.nd rfl (.inl rfl) (pe_ndisp1 hu (pe_cal cS hr2 (by rfl) (pa_cons (pv 0) pa_nil)) (pe_disp (pps_cons pe_int pe_int pps_nil) (by rfl) (by rfl) (fun z => by cases z) (by decide))))
      (pss_cons (ps_for PassesOwn.never rfl (pi_tup (pv 1)) (pg_name (i := 3) sc_worths.nd rfl (.inl rfl))
        (pss_cons (ps_par3 (i := 4) (j := 5) (l := 6) rfl sc_worths.nd rfl rfl rfl (by decide) (by decide) (by decide) rfl rfl rfl
            (pa_cons (pe_cal cH hr (by rfl) (pa_cons (pv 0) (pa_cons (pe_op op_sub (pe_callB call_abs (by rfl) T.abs (by decide +kernel) (pa_cons (pv 3) pa_nil)) pe_int) pa_nil))) (pa_cons pe_int (pa_cons pe_nnew pa_nil))) (by rfl))
        (pss_cons (ps_if (pt_cmpR op_lt (pv 3) pe_int (nomark _)) (pss_one (ps_set (i := 5) sc_worths.nd rfl (.inl rfl) (pe_un un_neg pe_int))) pss_nil)
        (pss_cons (ps_lock (ps_for PassesOwn.never rfl (pi_nitems (pv 2)) (pg_tup rfl (pgs_cons (pg_name (i := 7) sc_worths.nd rfl (.inl rfl)) (pgs_cons (pg_name (i := 8) sc_worths.nd rfl (.inl rfl)) pgs_nil)))
          (pss_cons (ps_expr (pe_calD cA hr1 (by rfl) (pa_cons (pe_nsetd hu (pv 6) (pv 7) pe_dnewK ⟨rfl, rfl, rfl, rfl⟩) (pa_cons (pv 8) (pa_cons (pv 5) pa_nil)))))
          (pss_cons (ps_asg (pe_cal cP hr2 (by rfl) (pa_cons (pv 7) (pa_cons (pv 4) pa_nil))) (pg_tup rfl (pgs_cons (pg_name (i := 9) sc_worths.nd rfl (.inl rfl)) (pgs_cons (pg_name (i := 10) sc_worths.nd rfl (.inl rfl)) (pgs_cons (pg_name (i := 11) sc_worths.nd rfl (.inl rfl)) (pgs_cons (pg_name (i := 12) sc_worths.nd rfl (.inl rfl)) pgs_nil))))))
          (pss_one (ps_expr (pe_calD cA hr1 (by rfl) (pa_cons (pe_nsetd hu (pv 6) (pe_tup (pa_cons (pv 10) (pa_cons (pv 11) (pa_cons (pv 12) pa_nil)))) pe_dnewK ⟨rfl, rfl, rfl, rfl⟩) (pa_cons (pe_cal cR hr2 (by rfl) (pa_cons (pv 8) (pa_cons (pv 9) pa_nil))) (pa_cons (pe_un un_neg (pv 5)) pa_nil))))))))))
        (pss_one (ps_set (i := 2) sc_worths.nd rfl (.inl rfl) (pv 6)))))))
      (pss_one (ps_ret (pv 2)))), ?_⟩
    -- table = {straight(n): {0: 1}}
    intro tp ntp
    have S0 := same_new (o := nO P w tp []) ntp
    refine ⟨_, rfl, n, rfl, h0, by omega, fun H1 sb sH1 mb => ?_⟩
    intro dp ndp
    have S1 := S0.trans sH1
    have e1 : H1 tp = some (nO P w tp []) := sH1 _ _ upd_same
    have tdp : tp ≠ dp := ne_of_none e1 ndp
    refine ⟨upd_same, [((Sum.inl 0 : Key), V.int 1)], rfl, by decide, ?_⟩
    have S2 := put_same (new_same S1 ndp (o := .dK [])) (S1.free ndp) (o := .dK [((Sum.inl 0 : Key), V.int 1)])
    have S12 : Same H1 (upd (upd H1 dp (.dK [])) dp (.dK [((Sum.inl 0 : Key), V.int 1)])) := put_same (same_new ndp) ndp
    refine ⟨sb, xk n 0, rfl, S12 _ _ e1, key_mat (by rw [KB.mat_zero n h6 h0]; exact mb.keep S12), depth_mkey _ _, fun dn1 => ?_⟩
    replace dn1 : DN P w (upd (upd (upd H1 dp (.dK [])) dp (.dK [((Sum.inl 0 : Key), V.int 1)])) tp (nO P w tp [(xk n 0, sb, .ref dp)])) tp [(xk n 0, sb, .ref dp)] := dn1
    have hdp : H dp = none := S1.free ndp
    have X0 : TabX P w H (upd (upd (upd H1 dp (.dK [])) dp (.dK [((Sum.inl 0 : Key), V.int 1)])) tp (nO P w tp [(xk n 0, sb, .ref dp)])) tp n [(xk n 0, sb, .ref dp)] KB.startT := by
      refine ⟨dn1, .cons ⟨rfl, dp, rfl, ?_⟩ .nil, List.nodup_cons.mpr ⟨by simp, List.nodup_nil⟩, fun e he d hd => ?_⟩
      · rw [upd_ne tdp.symm, upd_same]
        rfl
      · have : e = (xk n 0, sb, V.ref dp) := by simpa using he
        subst this
        cases hd
        exact hdp
    have S3 := put_same S2 ntp (o := nO P w tp [(xk n 0, sb, .ref dp)])
    refine ⟨_, rfl, a, rfl, ⟨_, SqT.of (S3 _ _ ha)⟩, ?_⟩
    refine for_tup (xs := vi l) (fun k σ H3 => ∃ (ta : Addr) (xs : List En) (y3 y4 y5 y6 y7 y8 y9 y10 y11 y12 : Option V), σ = [some (.int n), some (.ref a), some (.ref ta), y3, y4, y5, y6, y7, y8, y9, y10, y11, y12] ∧ Same H H3 ∧ H ta = none ∧ TabX P w H H3 ta n xs (KB.tabOf n (l.take k)))
      ⟨tp, _, none, none, none, none, none, none, none, none, none, none, rfl, S3, ntp, X0⟩ (fun k σ H3 _ h => by obtain ⟨_, _, _, _, _, _, _, _, _, _, _, _, _, s, _⟩ := h; exact SqT.of (s _ _ ha)) ?_ ?_
    · rintro k x H3 H3' hx ⟨ta, xs, y3, y4, y5, y6, y7, y8, y9, y10, y11, y12, rfl, s3, nta, X3⟩
      obtain ⟨c, hc, rfl⟩ := vi_get hx
      have hk : k < l.length := (List.getElem?_eq_some_iff.mp hc).1
      have okc : KB.Ok n c := hw c (List.mem_of_getElem? hc)
      have wk : KB.Word n (l.take k) := fun d hd => hw d (List.mem_of_mem_take hd)
      have hlk : (l.take k).length ≤ 11 := by rw [List.length_take]; omega
      have tok := KB.tabOf_ok h6 h0 wk
      have twt : KB.weight (KB.tabOf n (l.take k)) ≤ 177147 := Nat.le_trans (KB.tabOf_weight h6 h0 wk) (Nat.le_trans (Nat.pow_le_pow_right (by decide) hlk) (by decide))
      have tln : (KB.tabOf n (l.take k)).length ≤ 2048 := by
        have h1 := KB.tabs_len (n := n) (l.take k) KB.startT
        have h2 : 2 ^ (l.take k).length * KB.startT.length ≤ 2 ^ 11 * 1 := Nat.mul_le_mul_right _ (Nat.pow_le_pow_right (by decide) hlk)
        exact Nat.le_trans h1 h2
      have tnx : KB.tabOf n (l.take (k + 1)) = KB.stepT n c (KB.tabOf n (l.take k)) := by
        unfold KB.tabOf
        rw [take_succ hc, List.foldl_append]
        rfl
      generalize htab : KB.tabOf n (l.take k) = tab at *
      -- behind, shift, found = hook(..), 1, {}
      refine ⟨_, rfl, _, rfl, _, rfl, _, _, rfl, rfl, n, KB.ix c, by show [V.int (n : Int), V.int ((if c < 0 then -c else c) - 1)] = _; rw [abs_ix okc.1], okc.lt, by omega, fun H4 hb sH4 mh => ?_⟩
      intro fa nfa dnf
      refine ⟨_, _, _, rfl, ?_⟩
      -- if number < 0: shift = -1
      refine ⟨_, rfl, _, _, rfl, rfl, _, rfl, ite2 (fun e => ⟨1, rfl, ?_⟩) fun e => ?_⟩
      all_goals
        have es : some (V.int (KB.sg c)) = some (V.int (if decide (c < 0) = true then -1 else 1)) := by
          unfold KB.sg
          by_cases z : c < 0
          · rw [if_pos z, if_pos (decide_eq_true z)]
          · rw [if_neg z, if_neg (by simpa using z)]
        first
          | rw [if_pos e] at es
          | rw [if_neg e] at es
        -- for mat, worth in table.items()
        have X4 := (X3.keep sH4).keep (same_new (o := nO P w fa []) nfa)
        have nfa3 : H3' fa = none := sH4.free nfa
        have nfaH : H fa = none := s3.free nfa3
        have eta := X4.dn.2
        refine ⟨ta, _, eta, trivial, fun od => ?_⟩
        refine ⟨_, rfl, ta, od, xs, rfl, X4.dn.1.sys, upd_same, ?_⟩
        have taf : ta ≠ fa := ne_of_none (sH4 _ _ X3.dn.2) nfa
        -- the inner loop
        refine for_it walk_ni (fun i σ H5 => ∃ (zs : List En) (y7 y8 y9 y10 y11 y12 : Option V), σ = [some (.int n), some (.ref a), some (.ref ta), some (.int c), some (.ref hb), some (.int (KB.sg c)), some (.ref fa), y7, y8, y9, y10, y11, y12] ∧
            SmB ta H4 H5 ∧ H5 ta = some (.frz od (nO P w ta xs)) ∧ TabX P w H4 H5 fa n zs ((tab.take i).foldl (KB.turnT n c) []))
          ⟨[], _, _, _, _, _, _, by rw [es]; rfl, fun y o ey hy => by rw [upd_ne hy, upd_ne (ne_of_none ey nfa)]; exact ey, upd_same, ⟨⟨dnf.1.keep fun b ys ey => by rw [upd_ne (some_ne ey eta)]; exact ey, by rw [upd_ne taf.symm]; exact dnf.2⟩, .nil, List.nodup_nil, fun _ he => (nomatch he)⟩⟩
          (fun i σ H5 _ h => by obtain ⟨_, _, _, _, _, _, _, _, _, h, _⟩ := h; exact h) ?_ ?_
        · rintro i v σ H5 H6 hi ⟨zs, y7, y8, y9, y10, y11, y12, rfl, s5, e5, X5⟩ ⟨tt, en, hen, rfl, ntt, rfl⟩
          obtain ⟨te, dx, hte, hk1, hk2, hk3⟩ := (X3.keep sH4).rel.get hen
          obtain ⟨x, cx⟩ := te
          simp only at hk1 hk3
          have hx6 : x < KB.num n := tok.lt _ (List.mem_of_getElem? hte)
          have S6 := same_new (o := .tup [.ref en.2.1, en.2.2]) ntt
          have nx : tab.take (i + 1) = tab.take i ++ [(x, cx)] := take_succ hte
          have hlt : ∀ e ∈ tab.take i, e.1 < KB.num n := fun e he => tok.lt e (List.mem_of_mem_take he)
          have fok := KB.fold_ok h6 okc (tab.take i) [] (KB.TabOk.nil n) hlt
          have fwt := KB.fold_weight h6 okc (tab.take i) [] (KB.TabOk.nil n) hlt
          have fln := KB.fold_len (n := n) (c := c) (tab.take i) []
          have wti := KB.weight_take tab i
          have lti : (tab.take i).length ≤ tab.length := by rw [List.length_take]; omega
          have wcx := KB.weight_mem tab _ (List.mem_of_getElem? hte)
          have ez : KB.weight [] = 0 := rfl
          have el : ([] : KB.Tab).length = 0 := rfl
          simp only at wcx
          have ehf : (tab.take (i + 1)).foldl (KB.turnT n c) [] = KB.turnT n c ((tab.take i).foldl (KB.turnT n c) []) (x, cx) := by rw [nx, List.foldl_append]; rfl
          rw [ehf]
          generalize hft : (tab.take i).foldl (KB.turnT n c) [] = ft at *
          have kv6 : KeyV H5 (xk n x) (.ref en.2.1) := KeyV.keep (s5.tup (sH4 _ _ X3.dn.2) fun xs z => nomatch z) _ _ (hk1 ▸ ((X3.keep sH4).dn.1.key _ (List.mem_of_getElem? hen)).1)
          have dx5 : H5 dx = some (.dK (kc cx)) := s5 _ _ hk3 fun z => by
            subst z
            rw [(X3.keep sH4).dn.2] at hk3
            cases hk3
          refine ⟨tt, _, rfl, SqT.of upd_same, rfl, _, _, rfl, _, _, rfl, rfl, ?_⟩
          rw [hk2] at S6 ⊢
          have X6 := X5.keep S6
          -- add_into(found.setdefault(mat, {}), worth, shift)
          refine ⟨_, rfl, fa, rfl, ⟨zs, X6.dn.r⟩, _, rfl, fun p np => ?_⟩
          have bp : H4 p = none := by
            cases q : H4 p with
            | none => rfl
            | some o =>
              have : p ≠ ta := fun z => by
                subst z
                rw [S6 _ _ e5] at np
                cases np
              rw [S6 _ _ (s5 _ _ q this)] at np
              cases np
          have lzs := X5.rel.length
          refine ⟨en.2.1, zs, xk n x, rfl, (X6.keep (same_new np)).dn, KeyV.keep (fun b ys e => same_new np _ _ (S6 _ _ e)) _ _ kv6, depth_mkey _ _, by rw [sizeLine_eq]; omega, X6.setd h6 hx6 fok.lt np bp ?_⟩
          intro H7 zs7 tb7 d7 c7 X7 s7 v7 hd7 b7 ht7
          have dx7 : H7 dx = some (.dK (kc cx)) := s7 _ _ (S6 _ _ dx5) fun z => by
            subst z
            rw [X5.dn.2] at dx5
            cases dx5
          have ta7 : H7 ta = some (.frz od (nO P w ta xs)) := s7 _ _ (S6 _ _ e5) taf
          have dd7 : d7 ≠ dx := fun z => by
            subst z
            rw [hk3] at b7
            cases b7
          have c7w : c7.length ≤ KB.weight ft := by
            rcases ht7 with ⟨_, m⟩ | ⟨_, _, rfl⟩
            · exact KB.weight_mem _ _ m
            · exact Nat.zero_le _
          refine ⟨_, rfl, _, rfl, d7, dx, c7, cx, KB.sg c, 1, rfl, dd7, hd7, dx7, .inl rfl, by rw [sizeLine_eq]; omega, fun H8 s8 hd8 => ?_⟩
          have X8 := TabX.added h6 hx6 X7 fok.lt fok.nd v7 hd7 ht7 s8 hd8
          have fok1 := fok.upT hx6 cx (KB.sg c)
          have fwt1 := KB.weight_upT fok x cx (KB.sg c)
          have fln1 := KB.len_upT ft x cx (KB.sg c)
          -- the frame so far
          have b4 : ∀ y o, H4 y = some o → y ≠ ta → H8 y = some o := fun y o ey hy => s8 _ _ (s7 _ _ (S6 _ _ (s5 _ _ ey hy)) (ne_of_none ey nfa)) (ne_of_none ey b7)
          have ta8 : H8 ta = some (.frz od (nO P w ta xs)) := s8 _ _ ta7 fun z => by
            subst z
            rw [hd7] at ta7
            cases ta7
          have tp8 : ∀ b ys, H5 b = some (.tup ys) → H8 b = some (.tup ys) := fun b ys e => s8 _ _ (s7 _ _ (S6 _ _ e) (some_ne e X5.dn.2)) fun z => by
            subst z
            have := s7 _ _ (S6 _ _ e) (some_ne e X5.dn.2)
            rw [hd7] at this
            cases this
          -- rings, above, below, mates = put_behind(mat, behind)
          have mh5 : MatH H8 hb n n (KB.hookL n (KB.ix c)) := MatH.keepT (fun b ys e => b4 b _ e (some_ne e (sH4 _ _ X3.dn.2))) mh
          refine ⟨_, rfl, _, rfl, en.2.1, hb, n, n, n, n, KB.mat n x, KB.hookL n (KB.ix c), (KB.rgt n x (KB.ix c)).1, KB.mat n (KB.rgt n x (KB.ix c)).2, rfl, (mat_key kv6).keepT tp8, mh5, by omega, by omega, KB.putB_mat n h6 x hx6 _ okc.lt, fun H9 t9 m9 s9 ht9 hm9 => ?_⟩
          refine ⟨t9, _, rfl, SqT.of ht9, rfl, _, _, rfl, _, _, rfl, _, _, rfl, _, _, rfl, rfl, ?_⟩
          have X9 := X8.keep s9
          have hy6 := KB.rgt_lt n h6 x hx6 _ okc.lt
          generalize hyy : (KB.rgt n x (KB.ix c)).2 = y at *
          have hr1' := KB.rgt_le n h6 x hx6 _ okc.lt
          generalize hrr : (KB.rgt n x (KB.ix c)).1 = rr at *
          -- add_into(found.setdefault((above, below, mates), {}), with_rings(worth, rings), -shift)
          refine ⟨_, rfl, fa, rfl, ⟨zs7, X9.dn.r⟩, _, rfl, _, rfl, _, rfl, by show 3 ≤ sizeLine; decide, fun kt nkt => ?_⟩
          have S10 := same_new (o := .tup [.int n, .int n, .ref m9]) nkt
          intro p2 np2
          have X10 := X9.keep S10
          have bp2 : H4 p2 = none := by
            cases q : H4 p2 with
            | none => rfl
            | some o =>
              have : p2 ≠ ta := fun z => by
                subst z
                rw [S10 _ _ (s9 _ _ ta8)] at np2
                cases np2
              rw [S10 _ _ (s9 _ _ (b4 _ _ q this))] at np2
              cases np2
          have lzs8 := X8.rel.length
          have mk : MatH (upd H9 kt (.tup [.int n, .int n, .ref m9])) kt n n (KB.mat n y) := ⟨m9, upd_same, S10 _ _ hm9⟩
          refine ⟨kt, zs7, xk n y, rfl, (X10.keep (same_new np2)).dn, key_mat (mk.keep (same_new np2)), depth_mkey _ _, by rw [sizeLine_eq]; omega, X10.setd h6 hy6 fok1.lt np2 bp2 ?_⟩
          intro H11 zs11 tb11 d11 c11 X11 s11 v11 hd11 b11 ht11
          have dx8 : H8 dx = some (.dK (kc cx)) := b4 _ _ hk3 fun z => by
            subst z
            rw [(X3.keep sH4).dn.2] at hk3
            cases hk3
          have dx11 : H11 dx = some (.dK (kc cx)) := s11 _ _ (S10 _ _ (s9 _ _ dx8)) fun z => by
            subst z
            rw [X8.dn.2] at dx8
            cases dx8
          have ta11 : H11 ta = some (.frz od (nO P w ta xs)) := s11 _ _ (S10 _ _ (s9 _ _ ta8)) taf
          have p2l : 2 ^ rr * cx.length ≤ 2 * cx.length := Nat.mul_le_mul_right _ (by rcases Nat.le_one_iff_eq_zero_or_eq_one.mp hr1' with q | q <;> rw [q] <;> decide)
          refine ⟨_, rfl, _, rfl, dx, cx, rr, rfl, dx11, by omega, by rw [sizeLine_eq]; omega, fun H12 wd s12 nwd hwd => ?_⟩
          have d11w : d11 ≠ wd := ne_of_none hd11 nwd
          have c11w : c11.length ≤ KB.weight (KB.upT ft x cx (KB.sg c)) := by
            rcases ht11 with ⟨_, m⟩ | ⟨_, _, rfl⟩
            · exact KB.weight_mem _ _ m
            · exact Nat.zero_le _
          have lwr := KB.len_wRings cx rr
          refine ⟨_, rfl, KB.sg c, rfl, d11, wd, c11, KB.wRings cx rr, -KB.sg c, 1, rfl, d11w, s12 _ _ hd11, hwd, .inl rfl, by rw [sizeLine_eq]; omega, fun H13 s13 hd13 => ?_⟩
          have X13 := TabX.added h6 hy6 (X11.keep s12) fok1.lt fok1.nd v11 (s12 _ _ hd11) ht11 s13 hd13
          refine ⟨zs11, _, _, _, _, _, _, rfl, fun u o eu hu' => ?_, ?_, ?_⟩
          · exact s13 _ _ (s12 _ _ (s11 _ _ (S10 _ _ (s9 _ _ (b4 _ _ eu hu'))) (ne_of_none eu nfa))) (ne_of_none eu b11)
          · refine s13 _ _ (s12 _ _ ta11) fun z => ?_
            subst z
            rw [hd11] at ta11
            cases ta11
          · unfold KB.turnT
            simp only
            rw [hrr, hyy]
            exact X13
        · rintro σ H5 ⟨zs, y7, y8, y9, y10, y11, y12, rfl, s5, e5, X5⟩
          have lxs := (X3.keep sH4).rel.length
          rw [lxs, List.take_of_length_le (Nat.le_refl _)] at X5
          refine ⟨e5, _, rfl, fa, zs, _, _, _, _, _, _, _, _, _, _, rfl, fun u o eu => ?_, nfaH, ?_⟩
          · have e4 := sH4 _ _ (s3 _ _ eu)
            have ut : u ≠ ta := ne_of_none eu nta
            rw [upd_ne ut]
            exact s5 _ _ e4 ut
          · rw [tnx]
            refine ⟨⟨X5.dn.1.keep fun b ys e => by rw [upd_ne (some_ne e e5)]; exact e, by rw [upd_ne taf.symm]; exact X5.dn.2⟩, X5.rel.keep fun e he d c' k1 k2 => ?_, X5.nd, fun e he d hd => s3.free (sH4.free (X5.new e he d hd))⟩
            rw [upd_ne (some_ne k2 e5)]
            exact k2
    · rintro σ H3 ⟨ta, xs, y3, y4, y5, y6, y7, y8, y9, y10, y11, y12, rfl, s3, nta, X3⟩
      rw [List.length_map, List.take_of_length_le (Nat.le_refl _)] at X3
      exact ⟨_, rfl, q H3 ta xs s3 nta X3⟩
end
end KP

set_option Elab.async false
set_option linter.all false
set_option maxRecDepth 100000
set_option maxHeartbeats 4000000
/-! KC0: slices and sums of tuples. -/
namespace KP
open PySem PySem.Spec L2 KN
open PyProof.Rows hiding St
theorem cut_take (xs : List V) (k : Nat) : cutV xs none (some (k : Int)) = xs.take k := by
  unfold cutV
  rw [HT.sIx_nat, HT.sIx_none, List.drop_zero, Nat.sub_zero]
  by_cases h : k ≤ xs.length
  · rw [Nat.min_eq_left h]
  · rw [Nat.min_eq_right (by omega), List.take_of_length_le (Nat.le_refl _), List.take_of_length_le (by omega)]
theorem cut_drop (xs : List V) (k : Nat) : cutV xs (some (k : Int)) none = xs.drop k := by
  unfold cutV
  rw [HT.sIx_nat, HT.sIx_none]
  by_cases h : k ≤ xs.length
  · rw [Nat.min_eq_left h, List.take_of_length_le (by rw [List.length_drop]; exact Nat.le_refl _)]
  · rw [Nat.min_eq_right (by omega), List.drop_of_length_le (Nat.le_refl _), List.drop_of_length_le (by omega), List.take_nil]
theorem noPart {σ : L2.St} {H : Hp} {Q : Option Int → Hp → Prop} (h : Q none H) : tNoPart σ H Q := h
section
variable {K : PySem.W.Frag} {H : Hp} {a b : Addr} {xs ys : List V} {Q : VK}
theorem slA {lo hi : Option Int} (ha : H a = some (.tup xs)) (h : ∀ H' p, Same H H' → H' p = some (.tup (cutV xs lo hi)) → Q (.ref p) H') : rSlA K (.ref a) lo hi H Q := by
  refine ⟨a, xs, rfl, SqT.of ha, fun hw => h H a (Same.refl H) ?_, fun _ p np => h _ p (same_new np) upd_same⟩
  rw [ha]
  unfold cutV
  rw [hw.1, hw.2, List.drop_zero, Nat.sub_zero, List.take_of_length_le (Nat.le_refl _)]
theorem catA (ha : H a = some (.tup xs)) (hb : H b = some (.tup ys)) (hz : xs.length + ys.length ≤ sizeLine) (h : ∀ H' p, Same H H' → H' p = some (.tup (xs ++ ys)) → Q (.ref p) H') : rCatA K (.ref a) (.ref b) H Q := by
  refine ⟨a, b, xs, ys, rfl, rfl, SqT.of ha, SqT.of hb, hz, fun e => h H b (Same.refl H) ?_, fun _ e => h H a (Same.refl H) ?_, fun _ _ p np => h _ p (same_new np) upd_same⟩
  · rw [hb, e]
    rfl
  · rw [ha, e, List.append_nil]
theorem dp_ints : ∀ l : List Int, DpAll K H (vi l) (l.map PyData.int)
  | [] => .nil
  | c :: l => .cons (.int c) (dp_ints l)
theorem dp_tup {l : List Int} (ha : H a = some (.tup (vi l))) : Dp K H (.ref a) (.tuple (l.map PyData.int)) := .tup (SqT.of ha) (dp_ints l)
theorem dp_lst {l : List Int} (ha : H a = some (.lst (vi l))) : Dp K H (.ref a) (.list (l.map PyData.int)) := .lst (SqL.of ha) (dp_ints l)
end
theorem eqv_nil_t (l : List Int) : PyData.eqv (.tuple (l.map PyData.int)) (.tuple []) = l.isEmpty := by
  cases l <;> rfl
theorem eqv_nil_l (l : List Int) : PyData.eqv (.list (l.map PyData.int)) (.list []) = l.isEmpty := by
  cases l <;> rfl
theorem lay_ints : ∀ l : List Int, PyData.canLayAll0 (l.map PyData.int) = true
  | [] => by simp [PyData.canLayAll0]
  | c :: l => by
    have h := lay_ints l
    simp [PyData.canLayAll0, PyData.canLay0] at h ⊢
    exact h
theorem dep_ints : ∀ l : List Int, PyData.depthAll (l.map PyData.int) = 0
  | [] => rfl
  | c :: l => by
    show max (PyData.depth (.int c)) (PyData.depthAll (l.map PyData.int)) = 0
    rw [dep_ints l]
    rfl
theorem shp_t (l : List Int) : SeqAt.shaped (.tuple (l.map PyData.int)) = true := by
  unfold SeqAt.shaped
  rw [show PyData.depth (.tuple (l.map PyData.int)) = PyData.depthAll (l.map PyData.int) + 1 from rfl, dep_ints]
  have h := lay_ints l
  simp [PyData.canLay0, h]
theorem shp_l (l : List Int) : SeqAt.shaped (.list (l.map PyData.int)) = true := by
  unfold SeqAt.shaped
  rw [show PyData.depth (.list (l.map PyData.int)) = PyData.depthAll (l.map PyData.int) + 1 from rfl, dep_ints]
  have h := lay_ints l
  simp [PyData.canLay0, h]
/-- word != () -/
theorem neNil_t {K : PySem.W.Frag} {H : Hp} {a b : Addr} {l : List Int} {Q : VK} (ha : H a = some (.tup (vi l))) (hb : H b = some (.tup [])) (h : Q (.bl (!l.isEmpty)) H) : rNeD K (.ref a) (.ref b) H Q :=
  ⟨_, _, dp_tup ha, dp_tup (l := []) hb, shp_t l, shp_t [], by rw [show ([] : List Int).map PyData.int = [] from rfl, eqv_nil_t]; exact h⟩
theorem eqNil_t {K : PySem.W.Frag} {H : Hp} {a b : Addr} {l : List Int} {Q : VK} (ha : H a = some (.tup (vi l))) (hb : H b = some (.tup [])) (h : Q (.bl l.isEmpty) H) : rEqD K (.ref a) (.ref b) H Q :=
  ⟨_, _, dp_tup ha, dp_tup (l := []) hb, shp_t l, shp_t [], by rw [show ([] : List Int).map PyData.int = [] from rfl, eqv_nil_t]; exact h⟩
theorem neNil_l {K : PySem.W.Frag} {H : Hp} {a b : Addr} {l : List Int} {Q : VK} (ha : H a = some (.lst (vi l))) (hb : H b = some (.lst [])) (h : Q (.bl (!l.isEmpty)) H) : rNeD K (.ref a) (.ref b) H Q :=
  ⟨_, _, dp_lst ha, dp_lst (l := []) hb, shp_l l, shp_l [], by rw [show ([] : List Int).map PyData.int = [] from rfl, eqv_nil_l]; exact h⟩
end KP

set_option Elab.async false
set_option linter.all false
set_option maxRecDepth 100000
set_option maxHeartbeats 4000000
namespace KP
open PySem PySem.Spec L2 KN
open PyProof.Rows hiding St
theorem sc_poly : FnScope ["n", "word", "total", "turns", "mat", "worth", "sign", "found"] ["n", "word"] (defScope (topS 23)) := ⟨rfl, rfl, rfl, by decide +kernel, rfl, by decide +kernel, by decide +kernel⟩
section
variable {P : Program} {w : World} {K : PySem.W.Frag} {mg : Str → Option Value} {base : Heap}
def spPoly : Sp := fun vs H Q _ => ∃ (a : Addr) (l : List Int) (n : Nat), vs = [.int n, .ref a] ∧ H a = some (.tup (vi l)) ∧ 0 < n ∧ n < 6 ∧ KB.Word n l ∧ l.length ≤ 12 ∧
  ∀ H' p L, Same H H' → KB.Canon L (KB.poly n l) → LpAt H' p L → Q (.ref p) H'
theorem ok_poly {f : Addr} {fd : FuncData} (F : Fun K "closed_poly" "closed_poly" (topS 23) f fd) (T : Bt mg) (cB : Cal P w K mg base "check_braid" 2 ["n", "word"] spBraid) (cW : Cal P w K mg base "writhe" 2 ["word"] spWrithe)
    (cT : Cal P w K mg base "worths_of" 4 ["n", "word"] (spWorths P w)) (cA : CalD P w K mg base "add_into" 1 ["worth", "other", "shift", "factor"] spAdd (.int 1)) (cR : Cal P w K mg base "with_rings" 2 ["worth", "rings"] spRings)
    (cC : Cal P w K mg base "rings_closed" 3 ["mat"] spClosed) (cL : Cal P w K mg base "laurent" 1 ["worth"] spLau) :
    FnOk P w K mg base CX0 5 f fd ["n", "word"] spPoly := by
  refine F.ok sc_poly (fun vs H Q E h => ?_) (fun cdv A outer s H vs Q E hr h => ?_)
  · obtain ⟨a, l, n, rfl, _⟩ := h
    rfl
  · obtain ⟨a, l, n, rfl, ha, h0, h6, hw, h12, q⟩ := h
    have hu := hr.units
    have hr1 : Room 1 _ := hr.mono (by decide)
    have hr2 : Room 2 _ := hr.mono (by decide)
    have hr3 : Room 3 _ := hr.mono (by decide)
    refine ⟨_, pss_cons (ps_expr (pe_cal cB hr2 (by rfl) (pa_cons (pv 0) (pa_cons (pv 1) pa_nil))))
      (pss_cons (ps_par (i := 2) (j := 3) rfl sc_poly.nd rfl rfl (by decide) rfl rfl (pa_cons pe_dnewK (pa_cons (pe_cal cW hr2 (by rfl) (pa_cons (pv 1) pa_nil)) pa_nil)) (by rfl))
      (pss_cons (ps_for PassesOwn.never rfl (pi_nitems (pe_locked (pe_cal cT hr (by rfl) (pa_cons (pv 0) (pa_cons (pv 1) pa_nil))))) (pg_tup rfl (pgs_cons (pg_name (i := 4) sc_poly.nd rfl (.inl rfl)) (pgs_cons (pg_name (i := 5) sc_poly.nd rfl (.inl rfl)) pgs_nil)))
        (pss_one (ps_expr (pe_calD cA hr1 (by rfl) (pa_cons (pv 2) (pa_cons (pe_cal cR hr2 (by rfl) (pa_cons (pv 5) (pa_cons (pe_op op_sub (pe_cal cC hr3 (by rfl) (pa_cons (pv 4) pa_nil)) pe_int) pa_nil))) (pa_cons pe_int pa_nil)))))))
      (pss_cons (ps_set (i := 6) sc_poly.nd rfl (.inl rfl) pe_int)
      (pss_cons (ps_if (pt_cmpR op_eq (pe_op op_mod (pv 3) pe_int) pe_int (nomark _)) (pss_one (ps_set (i := 6) sc_poly.nd rfl (.inl rfl) (pe_un un_neg pe_int))) pss_nil)
      (pss_cons (ps_set (i := 7) sc_poly.nd rfl (.inl rfl) pe_dnewK)
      (pss_cons (ps_expr (pe_calN cA hr1 (by rfl) (pa_cons (pv 7) (pa_cons (pv 2) (pa_cons (pe_op op_mul (pe_un un_neg pe_int) (pv 3)) (pa_cons (pv 6) pa_nil))))))
      (pss_one (ps_ret (pe_cal cL hr1 (by rfl) (pa_cons (pv 7) pa_nil)))))))))), ?_⟩
    refine ⟨_, rfl, _, rfl, a, l, n, rfl, ha, h0, hw, ?_⟩
    -- total, turns = {}, writhe(word)
    intro tp ntp
    have S0 := same_new (o := .dK []) ntp
    refine ⟨_, rfl, a, l, rfl, S0 _ _ ha, fun c hc => (hw c hc).1, by omega, fun H1 s1 => ?_⟩
    have S1 := S0.trans s1
    have tp1 : H1 tp = some (.dK []) := s1 _ _ upd_same
    refine ⟨_, _, rfl, ?_⟩
    -- for mat, worth in worths_of(n, word).items()
    refine ⟨_, rfl, _, rfl, a, l, n, rfl, S1 _ _ ha, h0, h6, hw, h12, fun H2 ta xs s2 nta X2 => ?_⟩
    refine ⟨ta, xs, rfl, X2.dn, fun od => ?_⟩
    refine ⟨ta, od, xs, rfl, X2.dn.1.sys, upd_same, ?_⟩
    have tok := KB.tabOf_ok h6 h0 hw
    have twt : KB.weight (KB.tabOf n l) ≤ 531441 := Nat.le_trans (KB.tabOf_weight h6 h0 hw) (Nat.le_trans (Nat.pow_le_pow_right (by decide) h12) (by decide))
    have tpta : tp ≠ ta := ne_of_none tp1 nta
    have ntaH : H ta = none := S1.free nta
    generalize htab : KB.tabOf n l = tab at *
    have hlen := X2.rel.length
    refine for_it walk_ni (fun i σ H3 => ∃ (y4 y5 y6 y7 : Option V), σ = [some (.int n), some (.ref a), some (.ref tp), some (.int (KB.wr l)), y4, y5, y6, y7] ∧ SmB tp (upd H2 ta (.frz od (nO P w ta xs))) H3 ∧ H3 tp = some (.dK (kc ((tab.take i).foldl (KB.closeT n) []))))
      ⟨none, none, none, none, rfl, fun y o e _ => e, by rw [upd_ne tpta, s2 _ _ tp1]; rfl⟩ (fun i σ H3 _ h => by obtain ⟨_, _, _, _, _, s, _⟩ := h; exact s _ _ upd_same tpta.symm) ?_ ?_
    · rintro i v σ H3 H4 hi ⟨y4, y5, y6, y7, rfl, s3, e3⟩ ⟨tt, en, hen, rfl, ntt, rfl⟩
      obtain ⟨te, dx, hte, hk1, hk2, hk3⟩ := X2.rel.get hen
      obtain ⟨x, cx⟩ := te
      simp only at hk1 hk3
      have hx6 : x < KB.num n := tok.lt _ (List.mem_of_getElem? hte)
      have kv : KeyV H2 (xk n x) (.ref en.2.1) := hk1 ▸ (X2.dn.1.key _ (List.mem_of_getElem? hen)).1
      have b3 : ∀ y o, H2 y = some o → y ≠ ta → y ≠ tp → H3 y = some o := fun y o e h1 h2 => s3 _ _ (by rw [upd_ne h1]; exact e) h2
      have tp2 : H2 tp = some (.dK []) := s2 _ _ tp1
      have mx3 : MatH H3 en.2.1 n n (KB.mat n x) := MatH.keepT (fun b ys e => b3 b _ e (some_ne e X2.dn.2) (some_ne e tp2)) (mat_key kv)
      have dxtp : dx ≠ tp := fun z => by
        subst z
        have := X2.new _ (List.mem_of_getElem? hen) _ hk2
        rw [tp1] at this
        cases this
      have dx3 : H3 dx = some (.dK (kc cx)) := b3 _ _ hk3 (some_ne hk3 X2.dn.2) dxtp
      have nx : tab.take (i + 1) = tab.take i ++ [(x, cx)] := take_succ hte
      have hcl := KB.clo_pos n h6 x hx6
      have S5 := same_new (o := .tup [.ref en.2.1, en.2.2]) ntt
      have wti := KB.weight_take tab i
      have wcx := KB.weight_mem tab _ (List.mem_of_getElem? hte)
      simp only at wcx
      have lcl := KB.close_len h6 (tab.take i) [] (fun e he => tok.lt e (List.mem_of_mem_take he))
      have el : ([] : KB.LP).length = 0 := rfl
      have l2 : 2 ^ (KB.clo n x - 1) * cx.length ≤ 16 * cx.length := Nat.mul_le_mul_right _ (Nat.le_trans (Nat.pow_le_pow_right (by decide) (show KB.clo n x - 1 ≤ 4 by omega)) (by decide))
      have lw := KB.len_wRings cx (KB.clo n x - 1)
      have wt1 : KB.weight (tab.take i) + cx.length ≤ KB.weight tab := by
        have := KB.weight_take tab (i + 1)
        rw [nx] at this
        have e : KB.weight (tab.take i ++ [(x, cx)]) = KB.weight (tab.take i) + cx.length := by
          unfold KB.weight
          rw [List.map_append, List.sum_append]
          show _ + (cx.length + 0) = _
          omega
        omega
      refine ⟨tt, _, rfl, SqT.of upd_same, rfl, _, _, rfl, _, _, rfl, rfl, ?_⟩
      rw [hk2] at S5 ⊢
      refine ⟨_, rfl, _, rfl, _, rfl, en.2.1, n, KB.mat n x, KB.clo n x, [], rfl, mx3.keep S5, h0, by omega, KB.putB_clo n h6 x hx6, fun H5 s5 => ?_⟩
      refine ⟨_, _, rfl, rfl, dx, cx, KB.clo n x - 1, by show [V.ref dx, V.int ((KB.clo n x : Int) - 1)] = _; rw [show (KB.clo n x : Int) - 1 = ((KB.clo n x - 1 : Nat) : Int) by omega], s5 _ _ (S5 _ _ dx3), by omega, by rw [sizeLine_eq]; omega, fun H6 wd s6 nwd hwd => ?_⟩
      have tp6 := s6 _ _ (s5 _ _ (S5 _ _ e3))
      refine ⟨tp, wd, _, _, 0, 1, rfl, ne_of_none (s5 _ _ (S5 _ _ e3)) nwd, tp6, hwd, .inl rfl, by rw [sizeLine_eq]; omega, fun H7 s7 h7 => ?_⟩
      refine ⟨_, _, _, _, rfl, fun u o e hu' => s7 _ _ (s6 _ _ (s5 _ _ (S5 _ _ (s3 _ _ e hu')))) hu', ?_⟩
      rw [h7, nx, List.foldl_append]
      rfl
    · rintro σ H3 ⟨y4, y5, y6, y7, rfl, s3, e3⟩
      rw [hlen, List.take_of_length_le (Nat.le_refl _)] at e3
      have etot : tab.foldl (KB.closeT n) [] = KB.totalT n l := by rw [← htab]; rfl
      rw [etot] at e3
      have nd := KB.nd_total (n := n) l
      have lt := KB.len_total h6 h0 hw
      have lt2 : (KB.totalT n l).length ≤ 8503056 := Nat.le_trans lt (Nat.le_trans (Nat.mul_le_mul_left 16 (Nat.pow_le_pow_right (by decide) h12)) (by decide))
      have S3 : Same H H3 := fun y o e => by
        have e2 := s2 _ _ (S1 _ _ e)
        exact s3 _ _ (by rw [upd_ne (ne_of_none e ntaH)]; exact e2) (ne_of_none e ntp)
      refine ⟨_, rfl, _, _, rfl, rfl, by show (0 : Int) < 2; decide, rfl, _, rfl, ite2 (fun e => ⟨1, rfl, ?_⟩) fun e => ?_⟩
      all_goals
        have es : some (V.int (KB.sgp (KB.wr l))) = some (V.int (if decide (V.int (KB.wr l % 2) = V.int 1) = true then -1 else 1)) := by
          unfold KB.sgp
          by_cases z : KB.wr l % 2 = 1
          · rw [if_pos (by rw [z]; rfl), z]
            rfl
          · rw [if_neg (by simpa using z), show KB.wr l % 2 = 0 by omega]
            rfl
        first
          | rw [if_pos e] at es
          | rw [if_neg e] at es
        have hg : KB.sgp (KB.wr l) = 1 ∨ KB.sgp (KB.wr l) = -1 := by unfold KB.sgp; omega
        intro fp nfp
        have tf : fp ≠ tp := (ne_of_none e3 nfp).symm
        refine ⟨_, rfl, _, rfl, 3, rfl, _, rfl, _, _, rfl, rfl, .inl ⟨by decide, by decide⟩, _, rfl, fp, tp, [], KB.totalT n l, -3 * KB.wr l, KB.sgp (KB.wr l), ?_, tf, upd_same, by rw [upd_ne tf.symm]; exact e3, hg, by rw [sizeLine_eq]; show 0 + _ < _; omega, fun H5 s5 h5 => ?_⟩
        · have := V.int.inj (Option.some.inj es)
          rw [this]
          rfl
        · have lf : (KB.foundT n l).length ≤ (KB.totalT n l).length := by
            have := KB.len_addI (-3 * KB.wr l) (KB.sgp (KB.wr l)) (KB.totalT n l) []
            simp only [List.length_nil] at this
            unfold KB.foundT
            omega
          have cn : KB.ac (KB.foundT n l) KB.dl = KB.poly n l := KB.found_poly h6 h0 hw
          refine ⟨_, rfl, fp, KB.foundT n l, rfl, h5, KB.nd_found l, by rw [sizeLine_eq]; omega, fun H6 p L s6 hc hp => ?_⟩
          refine q H6 p L ?_ (cn ▸ hc) hp
          exact (SmB.same S3 (SmB.trans (SmB.of (same_new nfp)) s5) (S3.free nfp)).trans s6
end
end KP

set_option Elab.async false
set_option linter.all false
set_option maxRecDepth 100000
set_option maxHeartbeats 4000000
namespace KP
open PySem PySem.Spec L2 KN
open PyProof.Rows hiding St
open RT (ItvT pi_revA iRevA)
theorem sc_undone : FnScope ["word", "number"] ["word"] (defScope (topS 24)) := ⟨rfl, rfl, rfl, by decide +kernel, rfl, by decide +kernel, by decide +kernel⟩
theorem sc_moved : FnScope ["n", "word", "at", "ahead", "behind", "one", "other", "apart"] ["n", "word", "at"] (defScope (topS 25)) := ⟨rfl, rfl, rfl, by decide +kernel, rfl, by decide +kernel, by decide +kernel⟩
theorem sc_longer : FnScope ["n", "word", "sign"] ["n", "word", "sign"] (defScope (topS 26)) := ⟨rfl, rfl, rfl, by decide +kernel, rfl, by decide +kernel, by decide +kernel⟩
theorem sc_turned : FnScope ["word"] ["word"] (defScope (topS 27)) := ⟨rfl, rfl, rfl, by decide +kernel, rfl, by decide +kernel, by decide +kernel⟩
theorem walk_revT {K : PySem.W.Frag} {a : Addr} {xs : List V} : Walk (ItvT K a xs.length) xs.length (fun H => SqT K H a xs) (fun i H x H' => H' = H ∧ xs[xs.length - 1 - i]? = some x) :=
  ⟨fun i H hi h => ⟨hi, xs, xs[xs.length - 1 - i], h, List.getElem?_eq_getElem (by omega)⟩, fun _ _ => Nat.le_refl _, fun i H x H' hi h y => ⟨y.1, y.2 xs h⟩⟩
theorem rev_at {α : Type} {l : List α} {i : Nat} (hi : i < l.length) : l[l.length - 1 - i]? = l.reverse[i]? := by
  rw [List.getElem?_reverse hi]
theorem atV {l : List Int} {k : Nat} {c : Int} {z : Int} (e : z = (k : Int)) (h : l[k]? = some c) : atI (vi l) z = some (.int c) := by
  rw [e]
  refine atI_nat ?_
  show (List.map V.int l)[k]? = _
  rw [List.getElem?_map, h]
  rfl
theorem vi_take (l : List Int) (k : Nat) : (vi l).take k = vi (l.take k) := (List.map_take).symm
theorem vi_drop (l : List Int) (k : Nat) : (vi l).drop k = vi (l.drop k) := (List.map_drop).symm
section
variable {P : Program} {w : World} {K : PySem.W.Frag} {mg : Str → Option Value} {base : Heap}
def spUndone : Sp := fun vs H Q _ => ∃ (a : Addr) (l : List Int), vs = [.ref a] ∧ H a = some (.tup (vi l)) ∧ (∀ c ∈ l, c ≠ 0) ∧ l.length ≤ 1000 ∧ ∀ H' p, Same H H' → H' p = some (.tup (vi (l.reverse.map fun c => -c))) → Q (.ref p) H'
theorem ok_undone {f : Addr} {fd : FuncData} (F : Fun K "undone" "undone" (topS 24) f fd) (T : Bt mg) (c : Cal P w K mg base "check_word" 1 ["word", "n"] spWord) : FnOk P w K mg base CX0 2 f fd ["word"] spUndone := by
  refine F.ok sc_undone (fun vs H Q E h => ?_) (fun cdv A outer s H vs Q E hr h => ?_)
  · obtain ⟨a, l, rfl, _⟩ := h
    rfl
  · obtain ⟨a, l, rfl, ha, hw, hl, q⟩ := h
    refine ⟨_, pss_cons (ps_expr (pe_cal c hr (by rfl) (pa_cons (pv 0) (pa_cons pe_int pa_nil))))
      (pss_one (ps_ret (pe_callTy call_tuple_of (by rfl) T.tuple (by decide +kernel) (pa_cons (pe_lc (own := [("number", 1)]) (g := gName 1) (by rfl) sc_undone.nd (pi_revA (by rfl) T.reversed (pv 0)) (blkOk_by (own := [("number", 1)]) (N := ["word", "number"]) (sc := defScope (topS 24)) (by decide +kernel))
          (fun _ _ _ _ _ => pg_name (i := 1) sc_undone.nd rfl (Or.inl rfl)) (fun _ _ _ _ _ => pts_nil) (fun _ _ _ _ _ => pe_un un_neg (pv 1))) pa_nil)))), ?_⟩
    refine ⟨_, rfl, a, l, 0, rfl, ha, fun c hc => ⟨hw c hc, fun z => absurd z (by decide)⟩, ?_⟩
    refine ⟨_, rfl, a, vi l, rfl, .inr ⟨SqT.of ha, fun D nD => ?_⟩⟩
    refine lc_it walk_revT (fun i H1 => Same H H1 ∧ H1 D = some (.lst (vi ((l.reverse.take i).map fun c => -c)))) ⟨same_new nD, upd_same⟩ (fun i H1 _ h => SqT.of (h.1 _ _ ha)) ?_ ?_
    · rintro i x H1 H1' hi ⟨s1, e1⟩ ⟨rfl, hx⟩
      rw [List.length_map] at hi
      have hx2 : (vi l.reverse)[i]? = some x := by
        show (List.map V.int l.reverse)[i]? = _
        rw [List.map_reverse, ← rev_at (by rw [List.length_map]; exact hi)]
        exact hx
      obtain ⟨c, hc, rfl⟩ := vi_get hx2
      refine ⟨rfl, ?_⟩
      refine ⟨_, rfl, _, rfl, _, e1, by rw [List.length_map, List.length_map, List.length_take, List.length_reverse, sizeLine_eq]; omega, put_same s1 nD, ?_⟩
      rw [upd_same, List.take_add_one, hc]
      show _ = some (HO.lst (List.map V.int (List.map _ (_ ++ [c]))))
      rw [List.map_append, List.map_append]
      rfl
    · rintro H1 ⟨s1, e1⟩
      rw [List.length_map, List.take_of_length_le (by rw [List.length_reverse]; exact Nat.le_refl _)] at e1
      exact ⟨D, _, rfl, .inl ⟨SqL.of e1, fun p np => q _ p (new_same s1 np) upd_same⟩⟩
def spLonger : Sp := fun vs H Q _ => ∃ (a : Addr) (l : List Int) (n : Nat) (z : Int), vs = [.int n, .ref a, .int z] ∧ H a = some (.tup (vi l)) ∧ 0 < n ∧ n < 100 ∧ KB.Word n l ∧ l.length ≤ 1000 ∧ (z = 1 ∨ z = -1) ∧ ∀ H' p, Same H H' → H' p = some (.tup (vi (l ++ [(n : Int) * z]))) → Q (.ref p) H'
theorem ok_longer {f : Addr} {fd : FuncData} (F : Fun K "longer" "longer" (topS 26) f fd) (c : Cal P w K mg base "check_braid" 2 ["n", "word"] spBraid) : FnOk P w K mg base CX0 3 f fd ["n", "word", "sign"] spLonger := by
  refine F.ok sc_longer (fun vs H Q E h => ?_) (fun cdv A outer s H vs Q E hr h => ?_)
  · obtain ⟨a, l, n, z, rfl, _⟩ := h
    rfl
  · obtain ⟨a, l, n, z, rfl, ha, h0, h1, hw, hl, hz, q⟩ := h
    refine ⟨_, pss_cons (ps_expr (pe_cal c hr (by rfl) (pa_cons (pv 0) (pa_cons (pv 1) pa_nil))))
      (pss_cons (ps_if (pw_and (pt_cmpR op_ne (pv 2) pe_int (nomark _)) (pw_and1 (pt_cmpR op_ne (pv 2) (pe_un un_neg pe_int) (nomark _)))).pt (pss_one ps_never) pss_nil)
      (pss_one (ps_ret (pe_op op_catA (pv 1) (pe_tup (pa_cons (pe_op op_mul (pv 0) (pv 2)) pa_nil)))))), ?_⟩
    refine ⟨_, rfl, _, rfl, a, l, n, rfl, ha, h0, hw, ?_⟩
    have fin : ∀ {Q' : VK}, (∀ H' p, Same H H' → H' p = some (.tup (vi (l ++ [(n : Int) * z]))) → Q' (.ref p) H') → ∀ p, H p = none → rCatA K (.ref a) (.ref p) (upd H p (.tup [.int ((n : Int) * z)])) Q' := fun h p np =>
      catA (same_new np _ _ ha) upd_same (by rw [List.length_map, sizeLine_eq]; show l.length + 1 ≤ _; omega) fun H' p' s' e => h H' p' ((same_new np).trans s') (by rw [e, vi_app]; rfl)
    refine ⟨_, rfl, rfl, _, rfl, ?_⟩
    rcases hz with rfl | rfl
    · rw [decide_eq_true rfl]
      refine iteF (iteF ⟨_, rfl, _, rfl, _, rfl, _, _, rfl, rfl, .inl ⟨by omega, by omega⟩, by show 1 ≤ sizeLine; decide, fun p np => fin q p np⟩)
    · rw [decide_eq_false (by intro e; have := V.int.inj e; omega)]
      refine iteT ⟨_, rfl, 1, rfl, rfl, _, rfl, ?_⟩
      rw [show decide (V.int (-1) = (fun i => V.int (-i)) 1) = true from decide_eq_true rfl]
      refine iteF ⟨_, rfl, _, rfl, _, rfl, _, _, rfl, rfl, .inl ⟨by omega, by omega⟩, by show 1 ≤ sizeLine; decide, fun p np => fin q p np⟩
def spTurned : Sp := fun vs H Q _ => ∃ (a : Addr) (c : Int) (l : List Int), vs = [.ref a] ∧ H a = some (.tup (vi (c :: l))) ∧ (∀ d ∈ c :: l, d ≠ 0) ∧ l.length ≤ 1000 ∧ ∀ H' p, Same H H' → H' p = some (.tup (vi (l ++ [c]))) → Q (.ref p) H'
theorem ok_turned {f : Addr} {fd : FuncData} (F : Fun K "turned_word" "turned_word" (topS 27) f fd) (c : Cal P w K mg base "check_word" 1 ["word", "n"] spWord) : FnOk P w K mg base CX0 2 f fd ["word"] spTurned := by
  refine F.ok sc_turned (fun vs H Q E h => ?_) (fun cdv A outer s H vs Q E hr h => ?_)
  · obtain ⟨a, d, l, rfl, _⟩ := h
    rfl
  · obtain ⟨a, d, l, rfl, ha, hw, hl, q⟩ := h
    have hu := hr.units
    refine ⟨_, pss_cons (ps_expr (pe_cal c hr (by rfl) (pa_cons (pv 0) (pa_cons pe_int pa_nil))))
      (pss_cons (ps_if (pt_cmpR (op_eqD hu) (pv 0) (pe_tup pa_nil) (nomark _)) (pss_one ps_never) pss_nil)
      (pss_one (ps_ret (pe_op op_catA (pe_slice sl_tupA (pv 0) (po_some pe_int) po_none) (pe_slice sl_tupA (pv 0) po_none (po_some pe_int)))))), ?_⟩
    refine ⟨_, rfl, a, d :: l, 0, rfl, ha, fun c hc => ⟨hw c hc, fun z => absurd z (by decide)⟩, ?_⟩
    refine ⟨_, rfl, Nat.zero_le _, fun e ne => ?_⟩
    have s1 := same_new (o := .tup []) ne
    refine eqNil_t (s1 _ _ ha) upd_same ⟨_, rfl, iteF ?_⟩
    refine ⟨_, rfl, 1, rfl, noPart ?_⟩
    refine slA (s1 _ _ ha) fun H2 p s2 e2 => ?_
    refine ⟨_, rfl, noPart ⟨1, rfl, ?_⟩⟩
    refine slA (s2 _ _ (s1 _ _ ha)) fun H3 p' s3 e3 => ?_
    replace e2 : H2 p = some (.tup ((vi (d :: l)).drop 1)) := e2.trans (by rw [← cut_drop]; rfl)
    replace e3 : H3 p' = some (.tup ((vi (d :: l)).take 1)) := e3.trans (by rw [← cut_take]; rfl)
    refine catA (s3 _ _ e2) e3 (by rw [List.length_drop, List.length_take, List.length_map, List.length_cons, sizeLine_eq]; omega) fun H4 p4 s4 e4 => ?_
    refine q H4 p4 (((s1.trans s2).trans s3).trans s4) ?_
    rw [e4, vi_app]
    rfl
end
end KP

set_option Elab.async false
set_option linter.all false
set_option maxRecDepth 100000
set_option maxHeartbeats 4000000
namespace KP
open PySem PySem.Spec L2 KN
open PyProof.Rows hiding St
theorem ix_abs {c : Int} (h : c ≠ 0) : (if c < 0 then -c else c) = ((KB.ix c : Nat) : Int) + 1 := by
  unfold KB.ix
  split <;> omega
section
variable {P : Program} {w : World} {K : PySem.W.Frag} {mg : Str → Option Value} {base : Heap}
def spMoved : Sp := fun vs H Q _ => ∃ (a : Addr) (l : List Int) (n j : Nat), vs = [.int n, .ref a, .int j] ∧ H a = some (.tup (vi l)) ∧ 0 < n ∧ n < 6 ∧ KB.Word n l ∧ l.length ≤ 1000 ∧ j < l.length ∧ (∀ H', Same H H' → Q .non H') ∧
  ∀ H' p m, Same H H' → H' p = some (.tup (vi m)) → KB.Word n m → m.length ≤ l.length → KB.poly n m = KB.poly n l → Q (.ref p) H'
theorem split2 {l : List Int} {j : Nat} {c d : Int} (h1 : l[j]? = some c) (h2 : l[j + 1]? = some d) : l = l.take j ++ [c, d] ++ l.drop (j + 2) := by
  have e1 := (List.take_append_drop j l).symm
  have h3 := (List.getElem?_eq_some_iff.mp h1)
  have h4 := (List.getElem?_eq_some_iff.mp h2)
  obtain ⟨a1, a2⟩ := h3
  obtain ⟨b1, b2⟩ := h4
  have e2 : l.drop j = c :: l.drop (j + 1) := by rw [List.drop_eq_getElem_cons a1, a2]
  have e3 : l.drop (j + 1) = d :: l.drop (j + 2) := by rw [List.drop_eq_getElem_cons b1, b2]
  rw [e2, e3] at e1
  rw [List.append_assoc]
  exact e1
theorem ok_moved {f : Addr} {fd : FuncData} (F : Fun K "moved" "moved" (topS 25) f fd) (T : Bt mg) (c : Cal P w K mg base "check_braid" 2 ["n", "word"] spBraid) : FnOk P w K mg base CX0 3 f fd ["n", "word", "at"] spMoved := by
  refine F.ok sc_moved (fun vs H Q E h => ?_) (fun cdv A outer s H vs Q E hr h => ?_)
  · obtain ⟨a, l, n, j, rfl, _⟩ := h
    rfl
  · obtain ⟨a, l, n, j, rfl, ha, h0, h6, hw, hl, hj, qn, q⟩ := h
    have hu := hr.units
    refine ⟨_, pss_cons (ps_expr (pe_cal c hr (by rfl) (pa_cons (pv 0) (pa_cons (pv 1) pa_nil))))
      (pss_cons (ps_if (pw_or (pt_cmpR op_lt (pv 2) pe_int (nomark _)) (pw_or1 (pt_cmpR op_ge (pv 2) (pe_callB call_len (by rfl) T.len (by decide +kernel) (pa_cons (pv 1) pa_nil)) (nomark _)))).pt (pss_one ps_never) pss_nil)
      (pss_cons (ps_par (i := 3) (j := 4) rfl sc_moved.nd rfl rfl (by decide) rfl rfl (pa_cons (pe_slice sl_tupA (pv 1) po_none (po_some (pv 2))) (pa_cons (pe_slice sl_tupA (pv 1) (po_some (pe_op op_add (pv 2) pe_int)) po_none) pa_nil)) (by rfl))
      (pss_cons (ps_if (pt_cmpR op_eq (pe_op op_add (pv 2) pe_int) (pe_callB call_len (by rfl) T.len (by decide +kernel) (pa_cons (pv 1) pa_nil)) (nomark _)) (pss_one (ps_ret pe_non)) pss_nil)
      (pss_cons (ps_par (i := 5) (j := 6) rfl sc_moved.nd rfl rfl (by decide) rfl rfl (pa_cons (pe_ix ix_tup (pv 1) (pv 2) (fun _ _ => rfl)) (pa_cons (pe_ix ix_tup (pv 1) (pe_op op_add (pv 2) pe_int) (fun _ _ => rfl)) pa_nil)) (by rfl))
      (pss_cons (ps_set (i := 7) sc_moved.nd rfl (.inl rfl) (pe_callB call_abs (by rfl) T.abs (by decide +kernel) (pa_cons (pe_op op_sub (pe_callB call_abs (by rfl) T.abs (by decide +kernel) (pa_cons (pv 5) pa_nil)) (pe_callB call_abs (by rfl) T.abs (by decide +kernel) (pa_cons (pv 6) pa_nil))) pa_nil)))
      (pss_cons (ps_if (pt_cmpR op_ge (pv 7) pe_int (nomark _)) (pss_one (ps_ret (pe_op op_catA (pe_op op_catA (pv 3) (pe_tup (pa_cons (pv 6) (pa_cons (pv 5) pa_nil)))) (pv 4)))) pss_nil)
      (pss_cons (ps_if (pw_and (pt_cmpR op_eq (pv 7) pe_int (nomark _)) (pw_and1 (pt_cmpR op_eq (pv 5) (pe_un un_neg (pv 6)) (nomark _)))).pt (pss_one (ps_ret (pe_op op_catA (pv 3) (pv 4)))) pss_nil)
      (pss_cons (ps_if (pw_and (pt_cmpR op_eq (pv 7) pe_int (nomark _)) (pw_and (pt_cmpR (op_neD hu) (pv 4) (pe_tup pa_nil) (nomark _)) (pw_and (pt_cmpR op_eq (pe_ix ix_tup (pv 4) pe_int (fun _ _ => rfl)) (pv 5) (nomark _))
          (pw_and1 (pt_cmpR op_eq (pe_cmpR op_gt (pv 5) pe_int (nomark _)) (pe_cmpR op_gt (pv 6) pe_int (nomark _)) (nomark _)))))).pt
        (pss_one (ps_ret (pe_op op_catA (pe_op op_catA (pv 3) (pe_tup (pa_cons (pv 6) (pa_cons (pv 5) (pa_cons (pv 6) pa_nil))))) (pe_slice sl_tupA (pv 4) (po_some pe_int) po_none)))) pss_nil)
      (pss_one (ps_ret pe_non)))))))))), ?_⟩
    refine ⟨_, rfl, _, rfl, a, l, n, rfl, ha, h0, hw, ?_⟩
    refine ⟨_, rfl, _, _, rfl, rfl, _, rfl, ite2 (fun e => ?_) fun _ => ?_⟩
    · have := of_decide_eq_true e
      omega
    refine ⟨_, rfl, _, rfl, _, l.length, rfl, .inr ⟨_, SqT.of ha, by rw [List.length_map]⟩, _, _, rfl, rfl, _, rfl, ite2 (fun e => ?_) fun _ => ?_⟩
    · have e' : (l.length : Int) ≤ j := of_decide_eq_true e
      omega
    -- ahead, behind = word[:at], word[at + 2:]
    refine ⟨_, rfl, noPart ⟨_, rfl, _, rfl, ?_⟩⟩
    refine slA ha fun H1 u s1 e1 => ?_
    refine ⟨_, rfl, _, rfl, _, _, rfl, rfl, _, rfl, noPart ?_⟩
    refine slA (s1 _ _ ha) fun H2 v s2 e2 => ?_
    rw [cut_take, vi_take] at e1
    replace e2 : H2 v = some (.tup (vi (l.drop (j + 2)))) := e2.trans (by
      show some (HO.tup (cutV (vi l) (some ((j : Int) + 2)) none)) = _
      rw [show (j : Int) + 2 = ((j + 2 : Nat) : Int) by omega, cut_drop, vi_drop])
    have s12 := s1.trans s2
    have eu := s2 _ _ e1
    refine ⟨_, _, rfl, ?_⟩
    have ha2 := s12 _ _ ha
    -- if at + 1 == len(word)
    refine ⟨_, rfl, _, _, rfl, rfl, _, rfl, _, l.length, rfl, .inr ⟨_, SqT.of ha2, by rw [List.length_map]⟩, rfl, _, rfl, ite2 (fun e => ?_) fun e => ?_⟩
    · exact qn H2 s12
    have hj2 : j + 1 < l.length := by
      have : ¬ ((j : Int) + 1 = (l.length : Int)) := fun z => e (decide_eq_true (congrArg V.int z))
      omega
    obtain ⟨d1, hd1⟩ : ∃ d, l[j]? = some d := ⟨l[j], List.getElem?_eq_getElem hj⟩
    obtain ⟨d2, hd2⟩ : ∃ d, l[j + 1]? = some d := ⟨l[j + 1], List.getElem?_eq_getElem hj2⟩
    have ok1 : KB.Ok n d1 := hw _ (List.mem_of_getElem? hd1)
    have ok2 : KB.Ok n d2 := hw _ (List.mem_of_getElem? hd2)
    have el := split2 hd1 hd2
    have wA : KB.Word n (l.take j) := fun d hd => hw d (List.mem_of_mem_take hd)
    have wB : KB.Word n (l.drop (j + 2)) := fun d hd => hw d (List.mem_of_mem_drop hd)
    have lA : (l.take j).length = j := by rw [List.length_take]; omega
    have lB : (l.drop (j + 2)).length = l.length - (j + 2) := List.length_drop
    generalize hA : l.take j = A' at *
    generalize hB : l.drop (j + 2) = B' at *
    refine ⟨_, rfl, _, rfl, a, _, _, _, rfl, rfl, SqT.of ha2, atV rfl hd1, _, rfl, _, rfl, _, _, rfl, rfl, a, _, _, _, rfl, rfl, SqT.of ha2, atV (by show (j : Int) + 1 = _; omega) hd2, _, _, rfl, ?_⟩
    -- apart
    refine ⟨_, rfl, _, rfl, _, rfl, _, rfl, _, _, rfl, rfl, _, rfl, ?_⟩
    have x1 := ix_abs ok1.1
    have x2 := ix_abs ok2.1
    generalize hap : (if (fun i j => i - j) (if d1 < 0 then -d1 else d1) (if d2 < 0 then -d2 else d2) < 0 then -(fun i j => i - j) (if d1 < 0 then -d1 else d1) (if d2 < 0 then -d2 else d2) else (fun i j => i - j) (if d1 < 0 then -d1 else d1) (if d2 < 0 then -d2 else d2) : Int) = ap
    simp only [x1, x2] at hap
    have S0 : ∀ {H' : Hp}, Same H2 H' → Same H H' := fun h => s12.trans h
    have pl : KB.poly n l = KB.poly n (A' ++ [d1, d2] ++ B') := congrArg _ el
    have ll : l.length = A'.length + 2 + B'.length := by rw [lA, lB]; omega
    have w2 : KB.Word n [d2, d1] := KB.Word.cons ok2 (KB.Word.cons ok1 KB.Word.nil)
    -- if apart >= 2
    refine ⟨_, rfl, _, _, rfl, rfl, _, rfl, ite2 (fun e => ?_) fun e => ?_⟩
    · have e' : (2 : Int) ≤ ap := of_decide_eq_true e
      refine ⟨_, rfl, _, rfl, _, rfl, by show 2 ≤ sizeLine; decide, fun t nt => ?_⟩
      have s3 := same_new (o := .tup [.int d2, .int d1]) nt
      refine catA (s3 _ _ eu) upd_same (by rw [List.length_map, sizeLine_eq]; show A'.length + 2 ≤ _; omega) fun H4 p4 s4 e4 => ?_
      refine ⟨_, rfl, ?_⟩
      refine catA e4 (s4 _ _ (s3 _ _ e2)) (by rw [List.length_append, List.length_map, List.length_map, sizeLine_eq]; show A'.length + 2 + B'.length ≤ _; omega) fun H5 p5 s5 e5 => ?_
      refine q H5 p5 (A' ++ [d2, d1] ++ B') (S0 ((s3.trans s4).trans s5)) (by rw [e5, vi_app, vi_app]; rfl) ((wA.app w2).app wB) (by rw [List.length_append, List.length_append, ll]; exact Nat.le_refl _) ?_
      rw [pl]
      refine KB.poly_far h6 h0 wA ok1 ok2 ?_
      split at hap <;> omega
    have e' : ¬ (2 : Int) ≤ ap := fun z => e (decide_eq_true z)
    -- if apart == 0 and one == -other
    refine ⟨_, rfl, rfl, _, rfl, ite2 (fun e0 => ?_) fun e0 => ?_⟩
    · refine ⟨_, rfl, _, rfl, d2, rfl, rfl, _, rfl, ite2 (fun e1' => ?_) fun e1' => ?_⟩
      · have e3 : d1 = -d2 := V.int.inj (of_decide_eq_true e1')
        refine ⟨_, rfl, _, rfl, ?_⟩
        refine catA eu e2 (by rw [List.length_map, List.length_map, sizeLine_eq]; omega) fun H4 p4 s4 e4 => ?_
        refine q H4 p4 (A' ++ B') (S0 s4) (by rw [e4, vi_app]) (wA.app wB) (by rw [List.length_append, ll]; omega) ?_
        rw [pl, show [d1, d2] = [d1, -d1] by rw [e3, Int.neg_neg]]
        exact (KB.poly_inv h6 h0 wA ok1).symm
      · have e2' : ap = 0 := V.int.inj (of_decide_eq_true e0)
        refine ⟨_, rfl, rfl, _, rfl, ?_⟩
        rw [decide_eq_false (by intro z; have := V.int.inj z; omega)]
        exact iteF (qn H2 s12)
    have e0' : ap ≠ 0 := fun z => e0 (by rw [z]; exact decide_eq_true rfl)
    have hap1 : ap = 1 := by split at hap <;> omega
    refine iteF ?_
    -- if apart == 1 and behind != () and behind[0] == one and ..
    refine ⟨_, rfl, rfl, _, rfl, ?_⟩
    rw [hap1, decide_eq_true (show V.int 1 = V.int 1 from rfl)]
    refine iteT ?_
    refine ⟨_, rfl, Nat.zero_le _, fun t nt => ?_⟩
    have s3 := same_new (o := .tup []) nt
    refine neNil_t (s3 _ _ e2) upd_same ⟨_, rfl, ?_⟩
    cases B' with
    | nil => exact iteF (qn _ (S0 s3))
    | cons d3 B2 =>
      refine iteT ?_
      refine ⟨_, rfl, v, _, 0, _, rfl, rfl, SqT.of (s3 _ _ e2), atV (k := 0) rfl rfl, _, rfl, rfl, _, rfl, ite2 (fun e3 => ?_) fun e3 => ?_⟩
      · have e4 : d3 = d1 := V.int.inj (of_decide_eq_true e3)
        subst e4
        refine ⟨_, rfl, _, _, rfl, rfl, _, rfl, _, _, rfl, rfl, rfl, _, rfl, ite2 (fun e5 => ?_) fun e5 => ?_⟩
        · have e6 : decide ((0 : Int) < d3) = decide ((0 : Int) < d2) := V.bl.inj (of_decide_eq_true e5)
          have sg : KB.sg d3 = KB.sg d2 := by
            have n1 := ok1.1
            have n2 := ok2.1
            unfold KB.sg
            by_cases p1 : (0 : Int) < d3
            · rw [decide_eq_true p1] at e6
              have p2 : (0 : Int) < d2 := of_decide_eq_true e6.symm
              rw [if_neg (by omega), if_neg (by omega)]
            · rw [decide_eq_false p1] at e6
              have p2 : ¬ (0 : Int) < d2 := of_decide_eq_false e6.symm
              rw [if_pos (by omega), if_pos (by omega)]
          refine ⟨_, rfl, _, rfl, _, rfl, _, rfl, by show 3 ≤ sizeLine; decide, fun t2 nt2 => ?_⟩
          have s4 := s3.trans (same_new (o := .tup [.int d2, .int d3, .int d2]) nt2)
          simp only [List.length_cons] at ll
          refine catA (s4 _ _ eu) upd_same (by rw [List.length_map, sizeLine_eq]; show A'.length + 3 ≤ _; omega) fun H4 p4 s5 e7 => ?_
          refine ⟨_, rfl, 1, rfl, noPart ?_⟩
          refine slA (s5 _ _ (s4 _ _ e2)) fun H5 p5 s6 e8 => ?_
          replace e8 : H5 p5 = some (.tup (vi B2)) := e8.trans (by
            show some (HO.tup (cutV (vi (d3 :: B2)) (some ((1 : Nat) : Int)) none)) = _
            rw [cut_drop]
            rfl)
          refine catA (s6 _ _ e7) e8 (by rw [List.length_append, List.length_map, List.length_map, sizeLine_eq]; show A'.length + 3 + B2.length ≤ _; omega) fun H6 p6 s7 e9 => ?_
          have w3 : KB.Word n [d2, d3, d2] := KB.Word.cons ok2 (KB.Word.cons ok1 (KB.Word.cons ok2 KB.Word.nil))
          refine q H6 p6 (A' ++ [d2, d3, d2] ++ B2) (S0 (((s4.trans s5).trans s6).trans s7)) (by rw [e9, vi_app, vi_app]; rfl) ((wA.app w3).app wB.tail) (by rw [List.length_append, List.length_append, ll]; simp only [List.length_cons, List.length_nil]; omega) ?_
          rw [pl, show A' ++ [d3, d2] ++ d3 :: B2 = A' ++ [d3, d2, d3] ++ B2 by simp]
          refine KB.poly_three h6 h0 wA ok1 ok2 ?_ sg
          split at hap <;> omega
        · exact qn _ (S0 s3)
      · exact iteF (qn _ (S0 s3))
end
end KP

set_option Elab.async false
set_option linter.all false
set_option maxRecDepth 100000
set_option maxHeartbeats 4000000
namespace KP
open PySem PySem.Spec L2 KN
open PyProof.Rows hiding St
theorem scl_straight : FnScope ["_law_size_here"] ["_law_size_here"] (defScope (topS 34)) := ⟨rfl, rfl, rfl, by decide +kernel, rfl, by decide +kernel, by decide +kernel⟩
theorem scl_hook : FnScope ["_law_size_here", "_law_i", "_law_mates"] ["_law_size_here", "_law_i"] (defScope (topS 33)) := ⟨rfl, rfl, rfl, by decide +kernel, rfl, by decide +kernel, by decide +kernel⟩
theorem scl_over : FnScope ["_law_high", "_law_low", "_law_found", "_law_k"] ["_law_high", "_law_low"] (defScope (topS 36)) := ⟨rfl, rfl, rfl, by decide +kernel, rfl, by decide +kernel, by decide +kernel⟩
section
variable {P : Program} {w : World} {K : PySem.W.Frag} {mg : Str → Option Value} {base : Heap}
theorem okl_straight {f : Addr} {fd : FuncData} (F : Fun K "_law_straight" "_law_straight" (topS 34) f fd) (T : Bt mg) : FnOk P w K mg base CX0 1 f fd ["_law_size_here"] spStraight := by
  refine F.ok scl_straight (fun vs H Q E h => ?_) (fun cdv A outer s H vs Q E hr h => ?_)
  · obtain ⟨n, rfl, _⟩ := h
    rfl
  · obtain ⟨n, rfl, hn, h1, q⟩ := h
    refine ⟨_, pss_one (ps_ret (pe_tup (pa_cons (pv 0) (pa_cons (pv 0) (pa_cons (pe_callTy call_tuple_of (by rfl) T.tuple (by decide +kernel) (pa_cons
        (pe_op op_cat (pe_listRg rfl (by rfl) T.list (prg_2 (by rfl) T.range (pv 0) (pe_op op_mul pe_int (pv 0)))) (pe_listRg rfl (by rfl) T.list (prg_1 (by rfl) T.range (pv 0)))) pa_nil)) pa_nil))))), ?_⟩
    refine ⟨_, rfl, _, rfl, _, rfl, _, rfl, _, _, rfl, rfl, .inl ⟨by decide, by decide⟩, n, 2 * n, rfl, rfl, RgOk.of_le (by omega) (by omega) (by omega) (by omega), fun a na => ?_⟩
    refine ⟨_, rfl, n, rfl, RgOk.of_le (by omega) (by omega) (by omega) (by omega), fun b nb => ?_⟩
    have ab : a ≠ b := ne_of_none (upd_same (H := H) (a := a) (o := .lst (rgV n (2 * n)))) nb
    refine ⟨a, b, _, _, rfl, rfl, by rw [upd_ne ab]; exact upd_same, upd_same, ?_, fun d nd => ?_⟩
    · rw [rgV_length, rgV_length, sizeLine_eq]
      omega
    · refine ⟨d, _, rfl, .inl ⟨SqL.of upd_same, fun t nt => ?_⟩⟩
      refine ⟨by show 3 ≤ sizeLine; decide, fun r nrr => ?_⟩
      have s1 : Same H _ := ((((same_new na).trans (same_new nb)).trans (same_new nd)).trans (same_new nt)).trans (same_new (o := .tup [.int n, .int n, .ref t]) nrr)
      refine q _ r s1 ⟨t, upd_same, ?_⟩
      rw [upd_ne (ne_of_none upd_same nrr), upd_same, rgV_strL]
theorem okl_hook {f : Addr} {fd : FuncData} (F : Fun K "_law_hook" "_law_hook" (topS 33) f fd) (T : Bt mg) : FnOk P w K mg base CX0 1 f fd ["_law_size_here", "_law_i"] spHook := by
  refine F.ok scl_hook (fun vs H Q E h => ?_) (fun cdv A outer s H vs Q E hr h => ?_)
  · obtain ⟨n, i, rfl, _⟩ := h
    rfl
  · obtain ⟨n, i, rfl, hi, hn, q⟩ := h
    refine ⟨_, pss_cons (ps_set (i := 2) scl_hook.nd rfl (.inl rfl) (pe_op op_cat (pe_listRg rfl (by rfl) T.list (prg_2 (by rfl) T.range (pv 0) (pe_op op_mul pe_int (pv 0)))) (pe_listRg rfl (by rfl) T.list (prg_1 (by rfl) T.range (pv 0)))))
      (pss_cons (ps_asg (pe_tup (pa_cons (pe_op op_add (pv 1) pe_int) (pa_cons (pv 1) (pa_cons (pe_op op_add (pe_op op_add (pv 0) (pv 1)) pe_int) (pa_cons (pe_op op_add (pv 0) (pv 1)) pa_nil)))))
        (pg_tup rfl (pgs_cons (pg_sub (pv 2) (pv 1) set_list) (pgs_cons (pg_sub (pv 2) (pe_op op_add (pv 1) pe_int) set_list) (pgs_cons (pg_sub (pv 2) (pe_op op_add (pv 0) (pv 1)) set_list) (pgs_cons (pg_sub (pv 2) (pe_op op_add (pe_op op_add (pv 0) (pv 1)) pe_int) set_list) pgs_nil))))))
      (pss_one (ps_ret (pe_tup (pa_cons (pv 0) (pa_cons (pv 0) (pa_cons (pe_callTy call_tuple_of (by rfl) T.tuple (by decide +kernel) (pa_cons (pv 2) pa_nil)) pa_nil))))))), ?_⟩
    refine ⟨_, rfl, _, rfl, _, _, rfl, rfl, .inl ⟨by decide, by decide⟩, n, 2 * n, rfl, rfl, RgOk.of_le (by omega) (by omega) (by omega) (by omega), fun a na => ?_⟩
    refine ⟨_, rfl, n, rfl, RgOk.of_le (by omega) (by omega) (by omega) (by omega), fun b nb => ?_⟩
    have ab : a ≠ b := ne_of_none (upd_same (H := H) (a := a) (o := .lst (rgV n (2 * n)))) nb
    refine ⟨a, b, _, _, rfl, rfl, by rw [upd_ne ab]; exact upd_same, upd_same, ?_, fun l nl => ?_⟩
    · rw [rgV_length, rgV_length, sizeLine_eq]
      omega
    have s1 : Same H _ := (same_new na).trans (same_new (o := .lst (rgV 0 n)) nb)
    rw [rgV_strL]
    have hlen : ∀ (z : List Nat) (j : Nat), z.length = 2 * n → j < 2 * n → ixN (vn z).length ((j : Nat) : Int) = some j := fun z j h1 h2 => ixN_nat (by rw [vn_len, h1]; exact h2)
    have L0 := strL_len n
    refine ⟨_, rfl, _, _, rfl, rfl, _, rfl, _, rfl, _, rfl, _, _, rfl, rfl, _, _, rfl, rfl, _, rfl, _, rfl, _, _, rfl, rfl, by show 4 ≤ sizeLine; decide, fun t nt => ?_⟩
    have lt : l ≠ t := ne_of_none upd_same nt
    have hl : H l = none := s1.free nl
    have S2 := new_same s1 nl (o := .lst (vn (KB.strL n)))
    have S3 := new_same S2 nt (o := .tup [.int ((i : Int) + 1), .int i, .int ((n : Int) + i + 1), .int ((n : Int) + i)])
    have a1 : ixN (vn (KB.strL n)).length (i : Int) = some i := hlen _ _ L0 (by omega)
    have a2 : ixN ((vn (KB.strL n)).set i (.int ((i : Int) + 1))).length ((i : Int) + 1) = some (i + 1) := by rw [List.length_set]; exact hlen _ (i + 1) L0 (by omega)
    have a3 : ixN (((vn (KB.strL n)).set i (.int ((i : Int) + 1))).set (i + 1) (.int (i : Int))).length ((n : Int) + i) = some (n + i) := by rw [List.length_set, List.length_set, show (n : Int) + i = ((n + i : Nat) : Int) by omega]; exact hlen _ _ L0 (by omega)
    have a4 : ixN ((((vn (KB.strL n)).set i (.int ((i : Int) + 1))).set (i + 1) (.int (i : Int))).set (n + i) (.int ((n : Int) + i + 1))).length ((n : Int) + i + 1) = some (n + i + 1) := by
      rw [List.length_set, List.length_set, List.length_set, show (n : Int) + i + 1 = ((n + i + 1 : Nat) : Int) by omega]; exact hlen _ _ L0 (by omega)
    refine ⟨t, _, rfl, SqT.of upd_same, rfl, _, _, rfl, ⟨_, rfl, _, rfl, l, _, _, i, rfl, rfl, by rw [upd_ne lt]; exact upd_same, a1, ?_⟩⟩
    refine ⟨_, _, rfl, ⟨_, rfl, _, rfl, _, _, rfl, rfl, l, _, _, i + 1, rfl, rfl, upd_same, a2, ?_⟩⟩
    refine ⟨_, _, rfl, ⟨_, rfl, _, rfl, _, rfl, _, _, rfl, rfl, l, _, _, n + i, rfl, rfl, upd_same, a3, ?_⟩⟩
    refine ⟨_, _, rfl, ⟨_, rfl, _, rfl, _, rfl, _, _, rfl, rfl, _, _, rfl, rfl, l, _, _, n + i + 1, rfl, rfl, upd_same, a4, ⟨rfl, ?_⟩⟩⟩
    rw [upd_upd, upd_upd, upd_upd]
    refine ⟨_, rfl, _, rfl, _, rfl, l, _, rfl, .inl ⟨SqL.of upd_same, fun r nr => ?_⟩⟩
    refine ⟨by show 3 ≤ sizeLine; decide, fun m nm => ?_⟩
    refine q _ m (new_same (new_same (put_same S3 hl) nr) nm) ⟨r, upd_same, ?_⟩
    rw [upd_ne (ne_of_none upd_same nm), upd_same]
    show some (HO.tup (((((vn (KB.strL n)).set i (.int ((i : Int) + 1))).set (i + 1) (.int (i : Int))).set (n + i) (.int ((n : Int) + i + 1))).set (n + i + 1) (.int ((n : Int) + i)))) = _
    rw [show (n : Int) + i + 1 = ((n + i + 1 : Nat) : Int) by omega, show (n : Int) + i = ((n + i : Nat) : Int) by omega, show (i : Int) + 1 = ((i + 1 : Nat) : Int) by omega, vn_set, vn_set, vn_set, vn_set]
    rfl
def spOver : Sp := fun vs H Q _ => ∃ (r j : Nat), vs = [.int r, .int j] ∧ r < 20 ∧ j < 20 ∧ Q (.int (KB.over r j)) H
theorem over_succ (r j : Nat) : KB.over r (j + 1) = (KB.over r j * ((r : Int) - (j : Int))) / ((j : Int) + 1) := by
  unfold KB.over
  rw [List.range_succ, List.foldl_append]
  rfl
theorem okl_over {f : Addr} {fd : FuncData} (F : Fun K "_law_over" "_law_over" (topS 36) f fd) (T : Bt mg) : FnOk P w K mg base CX0 1 f fd ["_law_high", "_law_low"] spOver := by
  refine F.ok scl_over (fun vs H Q E h => ?_) (fun cdv A outer s H vs Q E hr h => ?_)
  · obtain ⟨n, i, rfl, _⟩ := h
    rfl
  · obtain ⟨n, j, rfl, h1, h2, q⟩ := h
    refine ⟨_, pss_cons (ps_set (i := 2) scl_over.nd rfl (.inl rfl) pe_int)
      (pss_cons (ps_for PassesOwn.never rfl (pi_range1 (by rfl) T.range (pa_cons (pv 1) pa_nil)) (pg_name (i := 3) scl_over.nd rfl (.inl rfl))
        (pss_one (ps_set (i := 2) scl_over.nd rfl (.inl rfl) (pe_op op_fdiv (pe_op op_mul (pv 2) (pe_op op_sub (pv 0) (pv 3))) (pe_op op_add (pv 3) pe_int)))))
      (pss_one (ps_ret (pv 2)))), ?_⟩
    refine ⟨_, rfl, j, rfl, by omega, by omega, ?_⟩
    refine for_range (lo := 0) (n := j) (fun i σ H1 => ∃ (y : Option V), σ = [some (.int n), some (.int j), some (.int (KB.over n i)), y] ∧ H1 = H) ⟨none, rfl, rfl⟩ ?_ ?_
    · rintro i σ H1 hi ⟨y, rfl, rfl⟩
      have hs := KB.over_small n h1 i (by omega)
      refine ⟨_, rfl, _, rfl, _, rfl, _, _, rfl, rfl, _, _, rfl, rfl, .inl ⟨by omega, by omega⟩, _, rfl, _, _, rfl, rfl, _, _, rfl, rfl, ⟨by omega, by omega⟩, ?_⟩
      refine ⟨some (.int (0 + (i : Nat))), ?_, rfl⟩
      rw [over_succ, show (0 : Int) + (i : Nat) = (i : Int) by omega]
      rfl
    · rintro σ H1 ⟨y, rfl, rfl⟩
      exact ⟨_, rfl, q⟩
end
end KP

set_option Elab.async false
set_option linter.all false
set_option maxRecDepth 100000
set_option maxHeartbeats 4000000
namespace KP
open PySem PySem.Spec L2 KN
open PyProof.Rows hiding St
theorem scl_put : FnScope ["_law_ahead", "_law_behind", "_law_above", "_law_middle", "_law_below", "_law_mates", "_law_seen", "_law_rings", "_law_start", "_law_upper", "_law_peg", "_law_step"] ["_law_ahead", "_law_behind"] (defScope (topS 32)) := ⟨rfl, rfl, rfl, by decide +kernel, rfl, by decide +kernel, by decide +kernel⟩
theorem for_rangeR {lo : Int} {n : Nat} {g : TG} {tb : TS} {D : Ends} {σ : L2.St} {H : Hp} (Pv : Nat → L2.St → Hp → Prop) (R : L2.St → Hp → Prop) (hR : ∀ σ H, R σ H → D.nx σ H) (h0 : Pv 0 σ H)
    (hs : (∀ σ H, R σ H → D.nx σ H) → ∀ (i : Nat) (σ : L2.St) (H : Hp), i < n → Pv i σ H → g (V.int (lo + i)) σ H fun σ2 H2 => tb { nx := Pv (i + 1), rt := D.rt, bk := D.nx, ct := Pv (i + 1) } σ2 H2)
    (hd : ∀ σ H, Pv n σ H → R σ H) :
    ∃ W : Nat → Nat → L2.St → Hp → Prop, (∃ m, W 0 m σ H) ∧ ∀ (i m : Nat) (σ : L2.St) (H : Hp), W i m σ H → (Itr lo n).stop i H ∧ D.nx σ H ∨ (Itr lo n).go i H ∧
      ∃ N, (∀ (σ' : L2.St) (H' : Hp), N σ' H' → ∃ m', m' < m ∧ W (i + 1) m' σ' H') ∧ ∀ (x : V) (H' : Hp), (Itr lo n).yld i H x H' → g x σ H' fun σ2 H2 => tb { nx := N, rt := D.rt, bk := D.nx, ct := N } σ2 H2 :=
  for_range Pv h0 (hs hR) fun σ H h => hR σ H (hd σ H h)
section
variable {P : Program} {w : World} {K : PySem.W.Frag} {mg : Str → Option Value} {base : Heap}
def splPut : Sp := fun vs H Q _ => ∃ (a b : Addr) (n m m' k : Nat) (la lb : List Nat) (r : Nat) (ms : List Nat), vs = [.ref a, .ref b] ∧ MatH H a n m la ∧ MatH H b m' k lb ∧ m ≤ 100 ∧ n + k ≤ 100 ∧
  KB.lwPut n m k la lb = some (r, ms) ∧ ∀ H' t c, Same H H' → H' t = some (.tup [.int r, .ref c]) → MatH H' c n k ms → Q (.ref t) H'
theorem okl_put {f : Addr} {fd : FuncData} (F : Fun K "_law_put" "_law_put" (topS 32) f fd) (T : Bt mg) : FnOk P w K mg base CX0 1 f fd ["_law_ahead", "_law_behind"] splPut := by
  refine F.ok scl_put (fun vs H Q E h => ?_) (fun cdv A outer s H vs Q E hr h => ?_)
  · obtain ⟨a, b, n, m, m', k, la, lb, r, ms, rfl, _⟩ := h
    rfl
  · obtain ⟨a, b, n, mid, m', k, la, lb, r, ms, rfl, ha, hb, hm, hnk, hf, q⟩ := h
    have ⟨ta, ha1, ha2⟩ := ha
    have ⟨tb, hb1, hb2⟩ := hb
    refine ⟨_, pss_cons (ps_par3 (i := 2) (j := 3) (l := 4) rfl scl_put.nd rfl rfl rfl (by decide) (by decide) (by decide) rfl rfl rfl (pa_cons (pe_ix ix_tup (pv 0) pe_int (fun _ _ => rfl)) (pa_cons (pe_ix ix_tup (pv 0) pe_int (fun _ _ => rfl)) (pa_cons (pe_ix ix_tup (pv 1) pe_int (fun _ _ => rfl)) pa_nil))) (by rfl))
      (pss_cons (ps_par3 (i := 5) (j := 6) (l := 7) rfl scl_put.nd rfl rfl rfl (by decide) (by decide) (by decide) rfl rfl rfl (pa_cons (pe_op op_rep (pe_lst (pa_cons pe_int pa_nil)) (pe_op op_add (pv 2) (pv 4))) (pa_cons (pe_op op_rep (pe_lst (pa_cons pe_bl pa_nil)) (pv 3)) (pa_cons pe_int pa_nil))) (by rfl))
      (pss_cons (ps_for PassesOwn.never rfl (pi_range1 (by rfl) T.range (pa_cons (pe_op op_add (pv 2) (pv 4)) pa_nil)) (pg_name (i := 8) scl_put.nd rfl (.inl rfl))
        (pss_cons (ps_par (i := 9) (j := 10) rfl scl_put.nd rfl rfl (by decide) rfl rfl (pa_cons (pe_cmpR op_lt (pv 8) (pv 2) (nomark _)) (pa_cons (pv 8) pa_nil)) (by rfl))
        (pss_cons (ps_if (pt_cmpR op_ge (pv 8) (pv 2) (nomark _)) (pss_one (ps_set (i := 10) scl_put.nd rfl (.inl rfl) (pe_op op_add (pe_op op_sub (pv 8) (pv 2)) (pv 3)))) pss_nil)
        (pss_cons (ps_for PassesOwn.never rfl (pi_range1 (by rfl) T.range (pa_cons (pe_op op_add (pe_op op_mul pe_int (pv 3)) pe_int) pa_nil)) (pg_name (i := 11) scl_put.nd rfl (.inl rfl))
          (pss_cons (ps_set (i := 10) scl_put.nd rfl (.inl rfl) (pe_ifExp (pt_val (pv 9)) (pe_ix ix_tup (pe_ix ix_tup (pv 0) pe_int (fun _ _ => rfl)) (pv 10) (fun _ _ => rfl)) (pe_ix ix_tup (pe_ix ix_tup (pv 1) pe_int (fun _ _ => rfl)) (pv 10) (fun _ _ => rfl))))
          (pss_cons (ps_if (pw_or (pw_and (pt_val (pv 9)) (pw_and1 (pt_cmpR op_lt (pv 10) (pv 2) (nomark _)))).pt (pw_or1 (pw_and (pt_not (pt_val (pv 9))) (pw_and1 (pt_cmpR op_ge (pv 10) (pv 3) (nomark _)))).pt)).pt (pss_one ps_break) pss_nil)
          (pss_cons (ps_set (i := 10) scl_put.nd rfl (.inl rfl) (pe_ifExp (pt_val (pv 9)) (pe_op op_sub (pv 10) (pv 2)) (pe_op op_add (pv 10) (pv 2))))
          (pss_cons (ps_set (i := 9) scl_put.nd rfl (.inl rfl) (pe_not (pv 9)))
          (pss_one (ps_asg pe_bl (pg_sub (pv 6) (pe_ifExp (pt_val (pv 9)) (pe_op op_sub (pv 10) (pv 2)) (pv 10)) set_list))))))))
        (pss_one (ps_asg (pe_ifExp (pt_val (pv 9)) (pv 10) (pe_op op_add (pe_op op_sub (pv 10) (pv 3)) (pv 2))) (pg_sub (pv 5) (pv 8) set_list)))))))
      (pss_cons (ps_for PassesOwn.never rfl (pi_range1 (by rfl) T.range (pa_cons (pv 3) pa_nil)) (pg_name (i := 8) scl_put.nd rfl (.inl rfl))
        (pss_cons (ps_set (i := 7) scl_put.nd rfl (.inl rfl) (pe_op op_add (pv 7) (pe_callTy call_int1 (by rfl) T.int (by decide +kernel) (pa_cons (pe_not (pe_ix ix_list (pv 6) (pv 8) (fun _ _ => rfl))) pa_nil))))
        (pss_cons (ps_set (i := 10) scl_put.nd rfl (.inl rfl) (pv 8))
        (pss_one (ps_for PassesOwn.never rfl (pi_range1 (by rfl) T.range (pa_cons (pv 3) pa_nil)) (pg_name (i := 11) scl_put.nd rfl (.inl rfl))
          (pss_one (ps_if (pt_not (pt_val (pe_ix ix_list (pv 6) (pv 10) (fun _ _ => rfl))))
            (pss_cons (ps_asg pe_bl (pg_sub (pv 6) (pv 10) set_list))
            (pss_cons (ps_set (i := 10) scl_put.nd rfl (.inl rfl) (pe_ix ix_tup (pe_ix ix_tup (pv 1) pe_int (fun _ _ => rfl)) (pv 10) (fun _ _ => rfl)))
            (pss_cons (ps_asg pe_bl (pg_sub (pv 6) (pv 10) set_list))
            (pss_one (ps_set (i := 10) scl_put.nd rfl (.inl rfl) (pe_op op_sub (pe_ix ix_tup (pe_ix ix_tup (pv 0) pe_int (fun _ _ => rfl)) (pe_op op_add (pv 2) (pv 10)) (fun _ _ => rfl)) (pv 2)))))))
            pss_nil)))))))
      (pss_one (ps_ret (pe_tup (pa_cons (pv 7) (pa_cons (pe_tup (pa_cons (pv 2) (pa_cons (pv 4) (pa_cons (pe_callTy call_tuple_of (by rfl) T.tuple (by decide +kernel) (pa_cons (pv 5) pa_nil)) pa_nil)))) pa_nil)))))))), ?_⟩
    refine ⟨_, rfl, a, _, 0, _, rfl, rfl, SqT.of ha1, rfl, _, rfl, a, _, 1, _, rfl, rfl, SqT.of ha1, rfl, _, rfl, b, _, 1, _, rfl, rfl, SqT.of hb1, rfl, _, _, _, rfl, ?_⟩
    -- mates, seen, rings
    refine ⟨by show 1 ≤ sizeLine; decide, fun x nx => ?_⟩
    have sx := same_new (o := .lst [V.int 0]) nx
    refine ⟨_, rfl, _, rfl, _, _, rfl, rfl, x, ((n : Int) + k), _, rfl, rfl, upd_same, by omega, by omega, by show 1 * ((n : Int) + k).toNat ≤ sizeLine; rw [sizeLine_eq]; omega, fun M nM => ?_⟩
    rw [show (List.replicate ((n : Int) + k).toNat [V.int 0]).flatten = vn (List.replicate (n + k) 0) by rw [show ((n : Int) + k).toNat = n + k by omega, rep_flat]; unfold vn; rw [List.map_replicate]; rfl]
    have sM := new_same sx nM (o := .lst (vn (List.replicate (n + k) 0)))
    refine ⟨by show 1 ≤ sizeLine; decide, fun y ny => ?_⟩
    have sy := new_same sM ny (o := .lst [V.bl false])
    refine ⟨_, rfl, y, mid, _, rfl, rfl, upd_same, by omega, by omega, by show 1 * (mid : Int).toNat ≤ sizeLine; rw [sizeLine_eq]; omega, fun S nS => ?_⟩
    rw [show (List.replicate (mid : Int).toNat [V.bl false]).flatten = vb (List.replicate mid false) by rw [show (mid : Int).toNat = mid by omega, rep_flat, vb_rep]]
    have s0 := new_same sy nS (o := .lst (vb (List.replicate mid false)))
    have hMN : H M = none := sx.free nM
    have hSN : H S = none := sy.free nS
    have My : M ≠ y := ne_of_none upd_same ny
    have MS : M ≠ S := ne_of_none (show _ = some (HO.lst (vn (List.replicate (n + k) 0))) by rw [upd_ne My]; exact upd_same) nS
    refine ⟨_, _, _, rfl, ?_⟩
    unfold KB.lwPut at hf
    cases h1 : KB.lwAll n mid la lb (List.range (n + k)) (List.replicate mid false) (List.replicate (n + k) 0) with
    | none => simp only [h1] at hf; cases hf
    | some mp =>
      obtain ⟨mz, pz⟩ := mp
      simp only [h1] at hf
      cases h2 : KB.lwLoose n mid la lb (List.range mid) pz 0 with
      | none => simp only [h2] at hf; cases hf
      | some rp =>
        obtain ⟨r', pe⟩ := rp
        simp only [h2] at hf
        obtain ⟨rfl, rfl⟩ : r' = r ∧ mz = ms := by
          have e := Option.some.inj hf
          exact ⟨congrArg Prod.fst e, congrArg Prod.snd e⟩
        refine ⟨_, rfl, _, rfl, _, _, rfl, rfl, ((n + k : Nat) : Int), by show [V.int ((n : Int) + k)] = _; rw [show (n : Int) + k = ((n + k : Nat) : Int) by omega], by omega, by omega, ?_⟩
        refine for_range (lo := 0) (n := n + k) (fun i σ H1 => ∃ (cur : List Bool) (acc : List Nat) (y8 y9 y10 y11 : Option V), σ = [some (.ref a), some (.ref b), some (.int n), some (.int mid), some (.int k), some (.ref M), some (.ref S), some (.int 0), y8, y9, y10, y11] ∧ Same H H1 ∧ H1 M = some (.lst (vn acc)) ∧ H1 S = some (.lst (vb cur)) ∧ KB.lwAll n mid la lb ((List.range (n + k)).drop i) cur acc = some (mz, pz))
          ⟨List.replicate mid false, List.replicate (n + k) 0, none, none, none, none, rfl, s0, by rw [upd_ne MS, upd_ne My]; exact upd_same, upd_same, h1⟩ ?_ ?_
        · rintro i σ H1 hi ⟨cur, acc, y8, y9, y10, y11, rfl, s1, e1, e2, hl⟩
          rw [range_drop hi, KB.lwAll, KB.lwOne] at hl
          rw [show (0 : Int) + (i : Nat) = (i : Int) from Int.zero_add _]
          refine ⟨_, rfl, _, rfl, _, _, rfl, rfl, _, rfl, _, _, rfl, ?_⟩
          refine ⟨_, rfl, _, rfl, _, _, rfl, rfl, _, rfl, ?_⟩
          obtain ⟨p0, hp0⟩ : ∃ p0 : Nat, p0 = (if n ≤ i then i - n + mid else i) := ⟨_, rfl⟩
          rw [← hp0] at hl
          cases hL : KB.lwLoop n mid la lb (2 * mid + 2) (decide (i < n)) p0 cur with
          | none => simp only [hL] at hl; cases hl
          | some upz =>
            obtain ⟨uF, pF, sF⟩ := upz
            rw [hL] at hl
            have aM : a ≠ M := ne_of_none ha1 hMN
            have aS : a ≠ S := ne_of_none ha1 hSN
            have taS : ta ≠ S := ne_of_none ha2 hSN
            have bS : b ≠ S := ne_of_none hb1 hSN
            have tbS : tb ≠ S := ne_of_none hb2 hSN
            refine ite2 (fun e => ?a1) fun e => ?a2
            case' a1 =>
              have e' : (n : Int) ≤ i := of_decide_eq_true e
              rw [if_pos (by omega)] at hp0
              refine ⟨_, rfl, _, rfl, _, _, rfl, rfl, _, rfl, _, _, rfl, rfl, ?_⟩
              have E10 : V.int ((i : Int) - n + mid) = V.int (p0 : Int) := by rw [show (i : Int) - n + mid = (p0 : Int) by omega]
            case' a2 =>
              have e' : ¬ (n : Int) ≤ i := fun z => e (decide_eq_true z)
              rw [if_neg (by omega)] at hp0
              have E10 : V.int (i : Int) = V.int (p0 : Int) := by rw [hp0]
            all_goals
              refine ⟨_, rfl, _, _, rfl, rfl, .inl ⟨by decide, by decide⟩, _, _, rfl, rfl, ((2 * mid + 2 : Nat) : Int), by show [V.int (2 * (mid : Int) + 2)] = _; rw [show 2 * (mid : Int) + 2 = ((2 * mid + 2 : Nat) : Int) by omega], by omega, by omega, ?_⟩
              refine for_rangeR (lo := 0) (n := 2 * mid + 2) (fun j σ H2 => ∃ (u : Bool) (p : Nat) (cc : List Bool) (y11 : Option V), σ = [some (.ref a), some (.ref b), some (.int n), some (.int mid), some (.int k), some (.ref M), some (.ref S), some (.int 0), some (.int i), some (.bl u), some (.int p), y11] ∧ H2 = upd H1 S (.lst (vb cc)) ∧ KB.lwLoop n mid la lb (2 * mid + 2 - j) u p cc = some (uF, pF, sF))
                (fun σ H2 => ∃ (y11 : Option V), σ = [some (.ref a), some (.ref b), some (.int n), some (.int mid), some (.int k), some (.ref M), some (.ref S), some (.int 0), some (.int i), some (.bl uF), some (.int pF), y11] ∧ H2 = upd H1 S (.lst (vb sF))) ?_ ?_ ?_ ?_
              · rintro σ H2 ⟨y11, rfl, rfl⟩
                cases uF with
                | true =>
                  by_cases hq : i < acc.length
                  · simp only [if_pos hq] at hl
                    refine ⟨_, rfl, true, rfl, iteT ⟨_, rfl, _, rfl, _, rfl, M, _, _, i, rfl, rfl, by rw [upd_ne MS]; exact e1, ixN_nat (by rw [vn_len]; exact hq), ?_⟩⟩
                    exact ⟨sF, acc.set i pF, _, _, _, _, rfl, put_same (put_same s1 hSN) hMN, by rw [upd_same, vn_set], by rw [upd_ne MS.symm]; exact upd_same, hl⟩
                  · simp only [if_neg hq] at hl
                    cases hl
                | false =>
                  by_cases h5 : mid ≤ pF
                  · simp only [if_pos h5] at hl
                    by_cases hq : i < acc.length
                    · simp only [if_pos hq] at hl
                      refine ⟨_, rfl, false, rfl, iteF ⟨_, rfl, _, rfl, _, _, rfl, rfl, _, rfl, _, _, rfl, rfl, _, rfl, _, rfl, M, _, _, i, rfl, rfl, by rw [upd_ne MS]; exact e1, ixN_nat (by rw [vn_len]; exact hq), ?_⟩⟩
                      have E : V.int ((pF : Int) - mid + n) = V.int ((pF - mid + n : Nat) : Int) := by rw [show (pF : Int) - mid + n = ((pF - mid + n : Nat) : Int) by omega]
                      refine ⟨sF, acc.set i (pF - mid + n), _, _, _, _, rfl, put_same (put_same s1 hSN) hMN, ?_, by rw [upd_ne MS.symm]; exact upd_same, hl⟩
                      rw [upd_same, ← vn_set, ← E]
                    · simp only [if_neg hq] at hl
                      cases hl
                  · simp only [if_neg h5] at hl
                    cases hl
              · refine ⟨decide (i < n), p0, cur, y11, ?_, (upd_id e2).symm, hL⟩
                rw [← dec_lt, ← E10]
                rfl
              · rintro cnt j σ H2 hj ⟨u, p, cc, y11, rfl, rfl, hg⟩
                obtain ⟨g, g1, g2⟩ : ∃ g, 2 * mid + 2 - j = g + 1 ∧ 2 * mid + 2 - (j + 1) = g := ⟨2 * mid + 2 - (j + 1), by omega, rfl⟩
                rw [g1] at hg
                rw [g2]
                cases u with
                | true =>
                  rw [KB.lwLoop] at hg
                  cases h3 : la[p]? with
                  | none => rw [h3] at hg; cases hg
                  | some qq =>
                    simp only [h3] at hg
                    refine ⟨_, rfl, true, rfl, iteT ?_⟩
                    refine ⟨_, rfl, a, _, 2, _, rfl, rfl, SqT.of (by rw [upd_ne aS]; exact s1 _ _ ha1), rfl, _, rfl, ta, _, _, _, rfl, rfl, SqT.of (by rw [upd_ne taS]; exact s1 _ _ ha2), at_natV' rfl h3, ?_⟩
                    refine ⟨_, rfl, true, rfl, iteT ⟨_, rfl, _, rfl, _, _, rfl, rfl, _, rfl, ite2 (fun e5 => ?_) fun e5 => ?_⟩⟩
                    · have e6 : (qq : Int) < n := of_decide_eq_true e5
                      rw [if_pos (by omega)] at hg
                      cases hg
                      exact cnt _ _ ⟨_, rfl, rfl⟩
                    · have e6 : ¬ (qq : Int) < n := fun z => e5 (decide_eq_true z)
                      rw [if_neg (by omega)] at hg
                      by_cases h5 : qq - n < cc.length
                      · rw [if_pos h5] at hg
                        refine ⟨_, rfl, true, rfl, iteF ?_⟩
                        refine iteF ?_
                        refine ⟨_, rfl, true, rfl, iteT ⟨_, rfl, _, rfl, _, _, rfl, rfl, ?_⟩⟩
                        refine ⟨_, rfl, true, rfl, ?_⟩
                        refine ⟨_, rfl, _, rfl, false, rfl, iteF ⟨_, rfl, S, _, _, qq - n, rfl, rfl, upd_same, vb_ixN (by show (qq : Int) - n = _; omega) h5, ?_⟩⟩
                        rw [upd_upd, vb_set]
                        have E : V.int ((qq : Int) - n) = V.int ((qq - n : Nat) : Int) := by rw [show (qq : Int) - n = ((qq - n : Nat) : Int) by omega]
                        refine ⟨false, qq - n, _, some (.int (0 + (j : Nat))), ?_, rfl, hg⟩
                        rw [← E]
                        rfl
                      · rw [if_neg h5] at hg
                        cases hg
                | false =>
                  rw [KB.lwLoop] at hg
                  cases h3 : lb[p]? with
                  | none => rw [h3] at hg; cases hg
                  | some qq =>
                    simp only [h3] at hg
                    refine ⟨_, rfl, false, rfl, iteF ?_⟩
                    refine ⟨_, rfl, b, _, 2, _, rfl, rfl, SqT.of (by rw [upd_ne bS]; exact s1 _ _ hb1), rfl, _, rfl, tb, _, _, _, rfl, rfl, SqT.of (by rw [upd_ne tbS]; exact s1 _ _ hb2), at_natV' rfl h3, ?_⟩
                    refine ⟨_, rfl, false, rfl, iteF ?_⟩
                    refine iteF ⟨_, rfl, false, rfl, iteT ⟨_, rfl, _, rfl, _, _, rfl, rfl, _, rfl, ite2 (fun e5 => ?_) fun e5 => ?_⟩⟩
                    · have e6 : (mid : Int) ≤ qq := of_decide_eq_true e5
                      rw [if_pos (by omega)] at hg
                      cases hg
                      exact cnt _ _ ⟨_, rfl, rfl⟩
                    · have e6 : ¬ (mid : Int) ≤ qq := fun z => e5 (decide_eq_true z)
                      rw [if_neg (by omega)] at hg
                      by_cases h5 : qq < cc.length
                      · rw [if_pos h5] at hg
                        refine ⟨_, rfl, false, rfl, iteF ⟨_, rfl, _, rfl, _, _, rfl, rfl, ?_⟩⟩
                        refine ⟨_, rfl, false, rfl, ?_⟩
                        refine ⟨_, rfl, _, rfl, true, rfl, iteT ⟨_, rfl, _, rfl, _, _, rfl, rfl, S, _, _, qq, rfl, rfl, upd_same, vb_ixN (by show (qq : Int) + n - n = _; omega) h5, ?_⟩⟩
                        rw [upd_upd, vb_set]
                        have E : V.int ((qq : Int) + n) = V.int ((qq + n : Nat) : Int) := by rw [show (qq : Int) + n = ((qq + n : Nat) : Int) by omega]
                        refine ⟨true, qq + n, _, some (.int (0 + (j : Nat))), ?_, rfl, hg⟩
                        rw [← E]
                        rfl
                      · rw [if_neg h5] at hg
                        cases hg
              · rintro σ H2 ⟨u, p, cc, y11, rfl, rfl, hg⟩
                rw [Nat.sub_self, KB.lwLoop] at hg
                cases hg
                exact ⟨_, rfl, rfl⟩
        · rintro σ H1 ⟨cur, acc, y8, y9, y10, y11, rfl, s1, e1, e2, hl⟩
          rw [range_end, KB.lwAll] at hl
          obtain ⟨rfl, rfl⟩ : acc = mz ∧ cur = pz := by
            have e := Option.some.inj hl
            exact ⟨congrArg Prod.fst e, congrArg Prod.snd e⟩
          refine ⟨_, rfl, mid, rfl, by omega, by omega, ?_⟩
          refine for_range (lo := 0) (n := mid) (fun i σ H2 => ∃ (cc : List Bool) (z : Nat) (y8 y9 y10 y11 : Option V), σ = [some (.ref a), some (.ref b), some (.int n), some (.int mid), some (.int k), some (.ref M), some (.ref S), some (.int z), y8, y9, y10, y11] ∧ Same H H2 ∧ H2 M = some (.lst (vn acc)) ∧ H2 S = some (.lst (vb cc)) ∧ KB.lwLoose n mid la lb ((List.range mid).drop i) cc z = some (r', pe))
            ⟨cur, 0, _, _, _, _, rfl, s1, e1, e2, h2⟩ ?_ ?_
          · rintro i σ H2 hi ⟨cc, z, y8, y9, y10, y11, rfl, s2, e3, e4, hl⟩
            rw [range_drop hi, KB.lwLoose] at hl
            cases h3 : cc[i]? with
            | none => rw [h3] at hl; cases hl
            | some t =>
              simp only [h3] at hl
              cases h4 : KB.lwRing n la lb mid i cc with
              | none => simp only [h4] at hl; cases hl
              | some sR =>
                simp only [h4] at hl
                have aS : a ≠ S := ne_of_none ha1 hSN
                have taS : ta ≠ S := ne_of_none ha2 hSN
                have bS : b ≠ S := ne_of_none hb1 hSN
                have tbS : tb ≠ S := ne_of_none hb2 hSN
                rw [show (0 : Int) + (i : Nat) = (i : Int) from Int.zero_add _]
                refine ⟨_, rfl, _, rfl, _, rfl, S, _, _, _, rfl, rfl, SqL.of e4, at_boolV' rfl h3, t, rfl, .inr ⟨_, rfl, _, _, rfl, rfl, ?_⟩⟩
                have E7 : V.int ((z : Int) + (if (!t) = true then 1 else 0)) = V.int ((z + (if t = true then 0 else 1) : Nat) : Int) := by
                  cases t <;> simp
                refine ⟨_, rfl, ?_⟩
                refine ⟨_, rfl, mid, rfl, by omega, by omega, ?_⟩
                refine for_range (lo := 0) (n := mid) (fun j σ H3 => ∃ (c2 : List Bool) (p : Nat) (y11 : Option V), σ = [some (.ref a), some (.ref b), some (.int n), some (.int mid), some (.int k), some (.ref M), some (.ref S), some (.int ((z + (if t = true then 0 else 1) : Nat) : Int)), some (.int i), y9, some (.int p), y11] ∧ H3 = upd H2 S (.lst (vb c2)) ∧ KB.lwRing n la lb (mid - j) p c2 = some sR)
                  ⟨cc, i, y11, by rw [← E7]; rfl, (upd_id e4).symm, h4⟩ ?_ ?_
                · rintro j σ H3 hj ⟨c2, p, y11, rfl, rfl, hg⟩
                  obtain ⟨g, g1, g2⟩ : ∃ g, mid - j = g + 1 ∧ mid - (j + 1) = g := ⟨mid - (j + 1), by omega, rfl⟩
                  rw [g1, KB.lwRing] at hg
                  rw [g2]
                  cases h5 : c2[p]? with
                  | none => rw [h5] at hg; cases hg
                  | some bb =>
                    have hx : p < c2.length := (List.getElem?_eq_some_iff.mp h5).1
                    rw [h5] at hg
                    refine ⟨_, rfl, _, rfl, S, _, _, _, rfl, rfl, SqL.of upd_same, at_boolV' rfl h5, bb, rfl, ?_⟩
                    cases bb with
                    | true => exact iteF ⟨c2, p, _, rfl, rfl, hg⟩
                    | false =>
                      refine iteT ?_
                      cases h6 : lb[p]? with
                      | none => simp only [h6] at hg; cases hg
                      | some u =>
                        simp only [h6] at hg
                        by_cases h7 : u < c2.length
                        · rw [if_pos h7] at hg
                          cases h8 : la[n + u]? with
                          | none => simp only [h8] at hg; cases hg
                          | some v =>
                            simp only [h8] at hg
                            by_cases h9 : n ≤ v
                            · rw [if_pos h9] at hg
                              refine ⟨_, rfl, _, rfl, S, _, _, p, rfl, rfl, upd_same, vb_ixN rfl hx, ?_⟩
                              rw [upd_upd, vb_set]
                              refine ⟨_, rfl, b, _, 2, _, rfl, rfl, SqT.of (by rw [upd_ne bS]; exact s2 _ _ hb1), rfl, _, rfl, tb, _, _, _, rfl, rfl, SqT.of (by rw [upd_ne tbS]; exact s2 _ _ hb2), at_natV' rfl h6, ?_⟩
                              refine ⟨_, rfl, _, rfl, S, _, _, u, rfl, rfl, upd_same, vb_ixN rfl (by rw [List.length_set]; exact h7), ?_⟩
                              rw [upd_upd, vb_set]
                              refine ⟨_, rfl, a, _, 2, _, rfl, rfl, SqT.of (by rw [upd_ne aS]; exact s2 _ _ ha1), rfl, _, rfl, _, rfl, _, _, rfl, rfl, ta, _, _, _, rfl, rfl, SqT.of (by rw [upd_ne taS]; exact s2 _ _ ha2), at_natV' (by show (n : Int) + u = _; omega) h8, _, rfl, _, _, rfl, rfl, ?_⟩
                              have E : V.int ((v : Int) - n) = V.int ((v - n : Nat) : Int) := by rw [show (v : Int) - n = ((v - n : Nat) : Int) by omega]
                              refine ⟨_, v - n, some (.int (0 + (j : Nat))), ?_, rfl, hg⟩
                              rw [← E]
                              rfl
                            · rw [if_neg h9] at hg
                              cases hg
                        · rw [if_neg h7] at hg
                          cases hg
                · rintro σ H3 ⟨c2, p, y11, rfl, rfl, hg⟩
                  rw [Nat.sub_self, KB.lwRing] at hg
                  cases hg
                  exact ⟨_, _, _, _, _, _, rfl, put_same s2 hSN, by rw [upd_ne MS]; exact e3, upd_same, hl⟩
          · rintro σ H2 ⟨cc, z, y8, y9, y10, y11, rfl, s2, e3, e4, hl⟩
            rw [range_end, KB.lwLoose] at hl
            obtain ⟨rfl, rfl⟩ : z = r' ∧ cc = pe := by
              have e := Option.some.inj hl
              exact ⟨congrArg Prod.fst e, congrArg Prod.snd e⟩
            refine ⟨_, rfl, _, rfl, _, rfl, _, rfl, M, _, rfl, .inl ⟨SqL.of e3, fun c nc => ?_⟩⟩
            refine ⟨by show 3 ≤ sizeLine; decide, fun t nt => ?_⟩
            refine ⟨by show 2 ≤ sizeLine; decide, fun v nv => ?_⟩
            have ct : c ≠ t := ne_of_none upd_same nt
            have tv : t ≠ v := ne_of_none upd_same nv
            have cv : c ≠ v := ne_of_none (show _ = some (HO.tup (vn acc)) by rw [upd_ne ct]; exact upd_same) nv
            refine q _ v t (new_same (new_same (new_same s2 nc) nt) nv) upd_same ⟨c, ?_, ?_⟩
            · rw [upd_ne tv, upd_same]
            · rw [upd_ne cv, upd_ne ct, upd_same]
end
end KP

set_option Elab.async false
set_option linter.all false
set_option maxRecDepth 100000
set_option maxHeartbeats 4000000
namespace KP
open PySem PySem.Spec L2 KN
open PyProof.Rows hiding St
theorem scl_laurent : FnScope ["_law_row", "_law_power"] ["_law_row"] (defScope (topS 38)) := ⟨rfl, rfl, rfl, by decide +kernel, rfl, by decide +kernel, by decide +kernel⟩
theorem scl_rings : FnScope ["_law_row", "_law_rings", "_law_power", "_law_times", "_law_j", "_law_place"] ["_law_row", "_law_rings", "_law_power", "_law_times"] (defScope (topS 37)) := ⟨rfl, rfl, rfl, by decide +kernel, rfl, by decide +kernel, by decide +kernel⟩
theorem scl_closed : FnScope ["_law_mesh", "_law_both", "_law_seen", "_law_rings", "_law_start", "_law_peg", "_law_step"] ["_law_mesh"] (defScope (topS 39)) := ⟨rfl, rfl, rfl, by decide +kernel, rfl, by decide +kernel, by decide +kernel⟩
section
variable {P : Program} {w : World} {K : PySem.W.Frag} {mg : Str → Option Value} {base : Heap}
theorem okl_laurent {f : Addr} {fd : FuncData} (F : Fun K "_law_laurent" "_law_laurent" (topS 38) f fd) (T : Bt mg) : FnOk P w K mg base CX0 1 f fd ["_law_row"] spLau := by
  refine F.ok scl_laurent (fun vs H Q E h => ?_) (fun cdv A outer s H vs Q E hr h => ?_)
  · obtain ⟨a, c, rfl, _⟩ := h
    rfl
  · obtain ⟨a, c, rfl, ha, nd, hsz, q⟩ := h
    have hu := hu_of hr
    refine ⟨_, pss_one (ps_ret (pe_callTy call_tuple_of (by rfl) T.tuple (by decide +kernel) (pa_cons (pe_lc (own := [("_law_power", 1)]) (g := gName 1) (by rfl) scl_laurent.nd
      (pi_list (pe_callB (cr_sortD rfl) (by rfl) T.sorted (by decide +kernel) (pa_cons (pv 0) pa_nil)))
      (blkOk_by (own := [("_law_power", 1)]) (N := ["_law_row", "_law_power"]) (sc := defScope (topS 38)) (by decide +kernel)) (fun _ _ _ _ _ => pg_name (i := 1) scl_laurent.nd rfl (Or.inl rfl))
      (fun _ _ _ _ _ => pts_one (pt_cmpR op_ne (pe_dget hu (pv 0) (pv 1) (fun _ _ => rfl)) pe_int (nomark _)))
      (fun _ _ _ _ _ => pe_tup (pa_cons (pv 1) (pa_cons (pe_dget hu (pv 0) (pv 1) (fun _ _ => rfl)) pa_nil)))) pa_nil))), ?_⟩
    refine ⟨_, rfl, a, kc c, c.map (·.1), rfl, .inl ha, kc_keys c, fun ks p hp hu1 np => ?_⟩
    have s1 := same_new (o := .lst (ks.map V.int)) np
    refine ⟨p, rfl, ⟨_, SqL.of upd_same⟩, fun D nD => ?_⟩
    have pD : p ≠ D := ne_of_none upd_same nD
    have hDN : H D = none := s1.free nD
    refine lc_list (xs := ks.map V.int) (fun i H1 => Same H H1 ∧ H1 p = some (.lst (ks.map V.int)) ∧ ∃ ts, H1 D = some (.lst (ts.map V.ref)) ∧ LpTs H1 ts (KB.lau c (ks.take i)))
      ⟨new_same s1 nD, by rw [upd_ne pD]; exact upd_same, [], upd_same, LpTs.nil _⟩ (fun i H1 _ h => SqL.of h.2.1) ?_ ?_
    · rintro i x H1 hx ⟨s2, e1, ts, e2, e3⟩
      rw [List.getElem?_map] at hx
      cases hk : ks[i]? with
      | none => rw [hk] at hx; cases hx
      | some k =>
        rw [hk] at hx
        obtain rfl : V.int k = x := Option.some.inj hx
        obtain ⟨v, hv⟩ := KB.getK_mem (hp.mem_iff.mp (List.mem_of_getElem? hk))
        have hv' : valV (kc c) (Sum.inl k : Key) = some (.int v) := by rw [kc_val, hv]; rfl
        have g1 := s2 _ _ ha
        have dg : DGet H1 a (.int k) (some (.int v)) := hv' ▸ DGet.k (k := Sum.inl k) g1
        have hts : ts.length < sizeLine := by
          have h1 := KB.len_lau c (ks.take i)
          rw [List.length_take] at h1
          have h2 := e3.1
          have h3 := (List.getElem?_eq_some_iff.mp hk).1
          have h4 := hp.length_eq
          rw [List.length_map] at h4
          omega
        refine ⟨rfl, ?_⟩
        refine ⟨_, rfl, _, rfl, a, _, rfl, dg, rfl, _, rfl, ?_⟩
        have et : ks.take (i + 1) = ks.take i ++ [k] := take_succ hk
        by_cases hz : v = 0
        · subst hz
          refine iteF ⟨s2, e1, ts, e2, ?_⟩
          rw [et, KB.lau_snoc, hv]
          show LpTs H1 ts (KB.lau c (ks.take i) ++ [])
          rw [List.append_nil]
          exact e3
        · rw [decide_eq_false (fun z => hz (V.int.inj z))]
          refine iteT ?_
          refine ⟨_, rfl, _, rfl, _, rfl, a, _, rfl, dg, by show 2 ≤ sizeLine; decide, fun t nt => ?_⟩
          have Dt : D ≠ t := ne_of_none e2 nt
          refine ⟨_, by rw [upd_ne Dt]; exact e2, by rw [List.length_map]; exact hts, put_same (new_same s2 nt) hDN, ?_, ts ++ [t], ?_, ?_⟩
          · rw [upd_ne pD, upd_ne (ne_of_none e1 nt)]
            exact e1
          · rw [upd_same, List.map_append]
            rfl
          · rw [et, KB.lau_snoc, hv]
            show LpTs _ _ (KB.lau c (ks.take i) ++ (if (v != 0) = true then [(k, v)] else []))
            rw [if_pos (by simpa using hz)]
            have keep : ∀ b xs, H1 b = some (.tup xs) → (upd (upd H1 t (.tup [.int k, .int v])) D (.lst (ts.map V.ref ++ [.ref t]))) b = some (.tup xs) := fun b xs e => by
              rw [upd_ne (some_ne e e2), upd_ne (ne_of_none e nt)]
              exact e
            exact (e3.keep keep).snoc (by rw [upd_ne Dt.symm]; exact upd_same)
    · rintro H1 ⟨s2, e1, ts, e2, e3⟩
      rw [List.length_map, List.take_of_length_le (Nat.le_refl _)] at e3
      have lenL : (KB.lau c ks).length ≤ sizeLine := by
        have h1 := KB.len_lau c ks
        have h4 := hp.length_eq
        rw [List.length_map] at h4
        omega
      refine ⟨D, _, rfl, .inl ⟨SqL.of e2, fun l nl => ?_⟩⟩
      refine q _ l _ (new_same s2 nl) (KB.canon_lau nd hp hu1) ⟨ts, upd_same, e3.keep fun b xs e => ?_, lenL⟩
      rw [upd_ne (ne_of_none e nl)]
      exact e
def spLw : Sp := fun vs H Q _ => ∃ (a : Addr) (c : KB.LP) (r : Nat) (pw tm : Int), vs = [.ref a, .int r, .int pw, .int tm] ∧ H a = some (.dK (kc c)) ∧ r < 19 ∧ c.length + r + 1 < sizeLine ∧
  ∀ H', SmB a H H' → H' a = some (.dK (kc (KB.lawW c r pw tm (r + 1)))) → Q .non H'
theorem okl_rings {f : Addr} {fd : FuncData} (F : Fun K "_law_with_rings" "_law_with_rings" (topS 37) f fd) (T : Bt mg) (cO : Cal P w K mg base "_law_over" 1 ["_law_high", "_law_low"] spOver) : FnOk P w K mg base CX0 2 f fd ["_law_row", "_law_rings", "_law_power", "_law_times"] spLw := by
  refine F.ok scl_rings (fun vs H Q E h => ?_) (fun cdv A outer s H vs Q E hr h => ?_)
  · obtain ⟨a, c, r, pw, tm, rfl, _⟩ := h
    rfl
  · obtain ⟨a, c, r, pw, tm, rfl, ha, h19, hsz, q⟩ := h
    have hu := hu_of hr
    refine ⟨_, pss_one (ps_for PassesOwn.never rfl (pi_range1 (by rfl) T.range (pa_cons (pe_op op_add (pv 1) pe_int) pa_nil)) (pg_name (i := 4) scl_rings.nd rfl (.inl rfl))
      (pss_cons (ps_set (i := 5) scl_rings.nd rfl (.inl rfl) (pe_op op_sub (pe_op op_add (pv 2) (pe_op op_mul pe_int (pv 1))) (pe_op op_mul pe_int (pv 4))))
      (pss_one (ps_dput hu (pv 0) (pv 5) (pe_op op_add (pe_dget2 hu (pv 0) (pv 5) pe_int ⟨rfl, rfl, rfl, rfl⟩)
        (pe_op op_mul (pe_op op_mul (pv 3) (pe_cal cO hr (by rfl) (pa_cons (pv 1) (pa_cons (pv 4) pa_nil)))) (pe_op op_sub pe_int (pe_op op_mul pe_int (pe_op op_mod (pe_callTy call_int1 (by rfl) T.int (by decide +kernel) (pa_cons (pv 1) pa_nil)) pe_int))))) rfl)))), ?_⟩
    refine ⟨_, rfl, _, _, rfl, rfl, ((r + 1 : Nat) : Int), rfl, by omega, by omega, ?_⟩
    refine for_range (lo := 0) (n := r + 1) (fun j σ H1 => ∃ (y4 y5 : Option V), σ = [some (.ref a), some (.int r), some (.int pw), some (.int tm), y4, y5] ∧ SmB a H H1 ∧ H1 a = some (.dK (kc (KB.lawW c r pw tm j))))
      ⟨none, none, rfl, fun x o e _ => e, ha⟩ ?_ ?_
    · rintro j σ H1 hj ⟨y4, y5, rfl, s1, e1⟩
      rw [show (0 : Int) + (j : Nat) = (j : Int) from Int.zero_add _]
      have ho := KB.over_small r (by omega) j (by omega)
      have l1 := KB.len_lawW c r pw tm j
      refine ⟨_, rfl, _, rfl, _, _, rfl, rfl, .inl ⟨by decide, by decide⟩, _, _, rfl, rfl, _, rfl, _, _, rfl, rfl, .inl ⟨by decide, by decide⟩, _, _, rfl, rfl, ?_⟩
      refine ⟨_, rfl, a, rfl, .inl ⟨_, .inl e1⟩, _, rfl, _, DGet.k (k := Sum.inl (pw + 2 * r - 4 * j)) e1, ?_⟩
      have hp : (-2 ^ 64 : Int) ≤ 1 - 2 * ((r : Int) % 2) ∧ 1 - 2 * ((r : Int) % 2) ≤ (2 ^ 64 : Int) := by omega
      refine ⟨_, rfl, _, rfl, _, rfl, r, j, rfl, by omega, by omega, _, _, rfl, rfl, .inr ⟨by omega, by omega⟩, ?_⟩
      refine ⟨_, rfl, .inl ⟨_, rfl, _, _, rfl, rfl, by show (0 : Int) < 2; decide, _, _, rfl, rfl, .inl ⟨by decide, by decide⟩, _, _, rfl, rfl, _, _, rfl, rfl, .inr ?_, _, _, kc_getD _ _, rfl, ?_⟩⟩
      · exact ⟨by omega, by omega⟩
      refine ⟨_, rfl, _, rfl, a, _, rfl, DPut.k (k := Sum.inl (pw + 2 * r - 4 * j)) e1 (by rw [kc_len]; omega), ?_⟩
      refine ⟨_, _, rfl, fun w o e hw => ?_, ?_⟩
      · rw [upd_ne hw]
        exact s1 w o e hw
      · rw [upd_same]
        exact congrArg (fun u => some (HO.dK u)) (kc_bump _ _ _)
    · rintro σ H1 ⟨y4, y5, rfl, s1, e1⟩
      exact q _ s1 e1
def splClosed : Sp := fun vs H Q _ => ∃ (a : Addr) (n : Nat) (la : List Nat) (r : Nat), vs = [.ref a] ∧ MatH H a n n la ∧ 0 < n ∧ n ≤ 50 ∧ KB.lcAll n la = some r ∧ ∀ H', Same H H' → Q (.int r) H'
theorem okl_closed {f : Addr} {fd : FuncData} (F : Fun K "_law_closed_rings" "_law_closed_rings" (topS 39) f fd) (T : Bt mg) : FnOk P w K mg base CX0 1 f fd ["_law_mesh"] splClosed := by
  refine F.ok scl_closed (fun vs H Q E h => ?_) (fun cdv A outer s H vs Q E hr h => ?_)
  · obtain ⟨a, n, la, r, rfl, _⟩ := h
    rfl
  · obtain ⟨a, n, la, r, rfl, ha, hn, hn2, hf, q⟩ := h
    have ⟨ta, ha1, ha2⟩ := ha
    refine ⟨_, pss_cons (ps_set (i := 1) scl_closed.nd rfl (.inl rfl) (pe_op op_mul pe_int (pe_ix ix_tup (pv 0) pe_int (fun _ _ => rfl))))
      (pss_cons (ps_par (i := 2) (j := 3) rfl scl_closed.nd rfl rfl (by decide) rfl rfl (pa_cons (pe_op op_rep (pe_lst (pa_cons pe_bl pa_nil)) (pv 1)) (pa_cons pe_int pa_nil)) (by rfl))
      (pss_cons (ps_for PassesOwn.never rfl (pi_range1 (by rfl) T.range (pa_cons (pv 1) pa_nil)) (pg_name (i := 4) scl_closed.nd rfl (.inl rfl))
        (pss_cons (ps_set (i := 3) scl_closed.nd rfl (.inl rfl) (pe_op op_add (pv 3) (pe_callTy call_int1 (by rfl) T.int (by decide +kernel) (pa_cons (pe_not (pe_ix ix_list (pv 2) (pv 4) (fun _ _ => rfl))) pa_nil))))
        (pss_cons (ps_set (i := 5) scl_closed.nd rfl (.inl rfl) (pv 4))
        (pss_one (ps_for PassesOwn.never rfl (pi_range1 (by rfl) T.range (pa_cons (pv 1) pa_nil)) (pg_name (i := 6) scl_closed.nd rfl (.inl rfl))
          (pss_one (ps_if (pt_not (pt_val (pe_ix ix_list (pv 2) (pv 5) (fun _ _ => rfl))))
            (pss_cons (ps_asg pe_bl (pg_sub (pv 2) (pv 5) set_list))
            (pss_cons (ps_set (i := 5) scl_closed.nd rfl (.inl rfl) (pe_ix ix_tup (pe_ix ix_tup (pv 0) pe_int (fun _ _ => rfl)) (pv 5) (fun _ _ => rfl)))
            (pss_cons (ps_asg pe_bl (pg_sub (pv 2) (pv 5) set_list))
            (pss_one (ps_set (i := 5) scl_closed.nd rfl (.inl rfl) (pe_op op_mod (pe_callTy call_int1 (by rfl) T.int (by decide +kernel) (pa_cons (pe_op op_add (pv 5) (pe_ix ix_tup (pv 0) pe_int (fun _ _ => rfl))) pa_nil)) (pv 1)))))))
            pss_nil)))))))
      (pss_one (ps_ret (pv 3))))), ?_⟩
    refine ⟨_, rfl, a, _, 0, _, rfl, rfl, SqT.of ha1, rfl, _, _, rfl, rfl, .inl ⟨by decide, by decide⟩, ?_⟩
    refine ⟨by show 1 ≤ sizeLine; decide, fun y ny => ?_⟩
    have sy := same_new (o := .lst [V.bl false]) ny
    refine ⟨_, rfl, y, 2 * (n : Int), _, rfl, rfl, upd_same, by omega, by omega, by show 1 * (2 * (n : Int)).toNat ≤ sizeLine; rw [sizeLine_eq]; omega, fun S nS => ?_⟩
    rw [show (List.replicate (2 * (n : Int)).toNat [V.bl false]).flatten = vb (List.replicate (2 * n) false) by rw [show (2 * (n : Int)).toNat = 2 * n by omega, rep_flat, vb_rep]]
    have s0 := new_same sy nS (o := .lst (vb (List.replicate (2 * n) false)))
    have hSN : H S = none := sy.free nS
    have aS : a ≠ S := ne_of_none ha1 hSN
    have taS : ta ≠ S := ne_of_none ha2 hSN
    refine ⟨_, _, rfl, ?_⟩
    unfold KB.lcAll at hf
    cases h2 : KB.lcLoose n la (List.range (2 * n)) (List.replicate (2 * n) false) 0 with
    | none => rw [h2] at hf; cases hf
    | some rp =>
      obtain ⟨r', pe⟩ := rp
      rw [h2] at hf
      obtain rfl : r' = r := Option.some.inj hf
      refine ⟨_, rfl, ((2 * n : Nat) : Int), by show [V.int (2 * (n : Int))] = _; rw [show 2 * (n : Int) = ((2 * n : Nat) : Int) by omega], by omega, by omega, ?_⟩
      refine for_range (lo := 0) (n := 2 * n) (fun i σ H2 => ∃ (cc : List Bool) (z : Nat) (y4 y5 y6 : Option V), σ = [some (.ref a), some (.int (2 * (n : Int))), some (.ref S), some (.int z), y4, y5, y6] ∧ Same H H2 ∧ H2 S = some (.lst (vb cc)) ∧ KB.lcLoose n la ((List.range (2 * n)).drop i) cc z = some (r', pe))
        ⟨_, 0, none, none, none, rfl, s0, upd_same, h2⟩ ?_ ?_
      · rintro i σ H2 hi ⟨cc, z, y4, y5, y6, rfl, s2, e4, hl⟩
        rw [range_drop hi, KB.lcLoose] at hl
        cases h3 : cc[i]? with
        | none => rw [h3] at hl; cases hl
        | some t =>
          simp only [h3] at hl
          cases h4 : KB.lcRing n la (2 * n) i cc with
          | none => simp only [h4] at hl; cases hl
          | some sR =>
            simp only [h4] at hl
            rw [show (0 : Int) + (i : Nat) = (i : Int) from Int.zero_add _]
            refine ⟨_, rfl, _, rfl, _, rfl, S, _, _, _, rfl, rfl, SqL.of e4, at_boolV' rfl h3, t, rfl, .inr ⟨_, rfl, _, _, rfl, rfl, ?_⟩⟩
            have E7 : V.int ((z : Int) + (if (!t) = true then 1 else 0)) = V.int ((z + (if t = true then 0 else 1) : Nat) : Int) := by
              cases t <;> simp
            refine ⟨_, rfl, ?_⟩
            refine ⟨_, rfl, ((2 * n : Nat) : Int), by show [V.int (2 * (n : Int))] = _; rw [show 2 * (n : Int) = ((2 * n : Nat) : Int) by omega], by omega, by omega, ?_⟩
            refine for_range (lo := 0) (n := 2 * n) (fun j σ H3 => ∃ (c2 : List Bool) (p : Nat) (y6 : Option V), σ = [some (.ref a), some (.int (2 * (n : Int))), some (.ref S), some (.int ((z + (if t = true then 0 else 1) : Nat) : Int)), some (.int i), some (.int p), y6] ∧ H3 = upd H2 S (.lst (vb c2)) ∧ KB.lcRing n la (2 * n - j) p c2 = some sR)
              ⟨cc, i, y6, by rw [← E7]; rfl, (upd_id e4).symm, h4⟩ ?_ ?_
            · rintro j σ H3 hj ⟨c2, p, y6, rfl, rfl, hg⟩
              obtain ⟨g, g1, g2⟩ : ∃ g, 2 * n - j = g + 1 ∧ 2 * n - (j + 1) = g := ⟨2 * n - (j + 1), by omega, rfl⟩
              rw [g1, KB.lcRing] at hg
              rw [g2]
              cases h5 : c2[p]? with
              | none => rw [h5] at hg; cases hg
              | some bb =>
                have hx : p < c2.length := (List.getElem?_eq_some_iff.mp h5).1
                rw [h5] at hg
                refine ⟨_, rfl, _, rfl, S, _, _, _, rfl, rfl, SqL.of upd_same, at_boolV' rfl h5, bb, rfl, ?_⟩
                cases bb with
                | true => exact iteF ⟨c2, p, _, rfl, rfl, hg⟩
                | false =>
                  refine iteT ?_
                  cases h6 : la[p]? with
                  | none => simp only [h6] at hg; cases hg
                  | some u =>
                    simp only [h6] at hg
                    by_cases h7 : u < c2.length
                    · rw [if_pos h7] at hg
                      refine ⟨_, rfl, _, rfl, S, _, _, p, rfl, rfl, upd_same, vb_ixN rfl hx, ?_⟩
                      rw [upd_upd, vb_set]
                      refine ⟨_, rfl, a, _, 2, _, rfl, rfl, SqT.of (by rw [upd_ne aS]; exact s2 _ _ ha1), rfl, _, rfl, ta, _, _, _, rfl, rfl, SqT.of (by rw [upd_ne taS]; exact s2 _ _ ha2), at_natV' rfl h6, ?_⟩
                      refine ⟨_, rfl, _, rfl, S, _, _, u, rfl, rfl, upd_same, vb_ixN rfl (by rw [List.length_set]; exact h7), ?_⟩
                      rw [upd_upd, vb_set]
                      refine ⟨_, rfl, _, rfl, a, _, 0, _, rfl, rfl, SqT.of (by rw [upd_ne aS]; exact s2 _ _ ha1), rfl, _, _, rfl, rfl, .inl ⟨_, rfl, _, rfl, _, _, rfl, rfl, by omega, ?_⟩⟩
                      have E : V.int (((u : Int) + n) % (2 * (n : Int))) = V.int (((u + n) % (2 * n) : Nat) : Int) := by
                        rw [show (u : Int) + n = ((u + n : Nat) : Int) by omega, show 2 * (n : Int) = ((2 * n : Nat) : Int) by omega]
                        rfl
                      refine ⟨_, (u + n) % (2 * n), some (.int (0 + (j : Nat))), ?_, rfl, hg⟩
                      rw [← E]
                      rfl
                    · rw [if_neg h7] at hg
                      cases hg
            · rintro σ H3 ⟨c2, p, y6, rfl, rfl, hg⟩
              rw [Nat.sub_self, KB.lcRing] at hg
              cases hg
              exact ⟨_, _, _, _, _, rfl, put_same s2 hSN, upd_same, hl⟩
      · rintro σ H2 ⟨cc, z, y4, y5, y6, rfl, s2, e4, hl⟩
        rw [range_end, KB.lcLoose] at hl
        obtain ⟨rfl, rfl⟩ : z = r' ∧ cc = pe := by
          have e := Option.some.inj hl
          exact ⟨congrArg Prod.fst e, congrArg Prod.snd e⟩
        exact ⟨_, rfl, q _ s2⟩
end
end KP

set_option Elab.async false
set_option linter.all false
set_option maxRecDepth 100000
set_option maxHeartbeats 4000000
namespace KP
open PySem PySem.Spec L2 KN
open PyProof.Rows hiding St
theorem scl_states : FnScope ["_law_size_here", "_law_crossings_here", "_law_table", "_law_number", "_law_found", "_law_hook_here", "_law_puts", "_law_step", "_law_state", "_law_mesh", "_law_rings", "_law_power", "_law_more", "_law_made", "_law_goal"] ["_law_size_here", "_law_crossings_here"] (defScope (topS 35)) := ⟨rfl, rfl, rfl, by decide +kernel, rfl, by decide +kernel, by decide +kernel⟩
/-! ### states as keys -/
abbrev skey (n : Nat) (k : KB.Stt) : NestedKey := .tup [xk n k.1, .num (k.2.1 : Nat), .num k.2.2]
theorem skey_inj {n : Nat} {k m : KB.Stt} (hn : n < 6) (hk : k.1 < KB.num n) (hm : m.1 < KB.num n) (h : skey n k = skey n m) : k = m := by
  have h1 := NestedKey.tup.inj h
  have e1 := xk_inj hn hk hm (List.cons.inj h1).1
  have h2 := (List.cons.inj h1).2
  have e2 : ((k.2.1 : Nat) : Int) = ((m.2.1 : Nat) : Int) := NestedKey.num.inj (List.cons.inj h2).1
  have e3 : k.2.2 = m.2.2 := NestedKey.num.inj (List.cons.inj (List.cons.inj h2).2).1
  obtain ⟨k1, k2, k3⟩ := k
  obtain ⟨m1, m2, m3⟩ := m
  simp only at e1 e2 e3
  rw [e1, e3, show k2 = m2 by omega]
theorem depth_skey (n : Nat) (k : KB.Stt) : (skey n k).depth ≤ 8 := by
  have h : (mkey n (KB.mat n k.1)).depth = 2 := by
    show max 0 (max 0 (max (NestedKey.depthAll (nkey (KB.mat n k.1)) + 1) 0)) + 1 = 2
    rw [depth_nkey]
    rfl
  show max (mkey n (KB.mat n k.1)).depth (max 0 (max 0 0)) + 1 ≤ 8
  rw [h]
  decide
theorem key_st {H : Hp} {n : Nat} {k : KB.Stt} {m b : Addr} (h : H b = some (.tup [.ref m, .int (k.2.1 : Nat), .int k.2.2])) (hm : KeyV H (xk n k.1) (.ref m)) : KeyV H (skey n k) (.ref b) :=
  .tup h (.cons hm (.cons (.num _) (.cons (.num _) .nil)))
theorem st_key {H : Hp} {n : Nat} {k : KB.Stt} {b : Addr} (h : KeyV H (skey n k) (.ref b)) : ∃ m, H b = some (.tup [.ref m, .int (k.2.1 : Nat), .int k.2.2]) ∧ KeyV H (xk n k.1) (.ref m) := by
  cases h with
  | tup h1 h2 =>
    cases h2 with
    | @cons _ x1 _ _ a1 h3 =>
      cases h3 with
      | cons a2 h4 =>
        cases a2
        cases h4 with
        | cons a3 h5 =>
          cases a3
          cases h5
          have ⟨m, e⟩ : ∃ m, x1 = .ref m := by
            cases a1 with
            | tup _ _ => exact ⟨_, rfl⟩
          subst e
          exact ⟨m, h1, a1⟩
abbrev SRel (n : Nat) : List En → KB.Sts → Prop := Paired fun (e : En) (t : KB.Stt × Int) => e.1 = skey n t.1 ∧ e.2.2 = .int t.2
theorem SRel.val {n : Nat} (hn : n < 6) {k : KB.Stt} (hk : k.1 < KB.num n) {xs : List En} {t : KB.Sts} (r : SRel n xs t) (hl : ∀ e ∈ t, e.1.1 < KB.num n) : valN xs (skey n k) = (KB.getK t k).map V.int := by
  induction r with
  | nil => rfl
  | @cons p q ps qs hq t ih =>
    obtain ⟨h1, h2⟩ := hq
    by_cases e : q.1 = k
    · rw [valN_pos (by rw [h1, e]), KB.getK_pos e, h2]
      rfl
    · rw [valN_neg (fun z => e (skey_inj hn (hl q List.mem_cons_self) hk (h1.symm.trans z))), KB.getK_neg e]
      exact ih fun e he => hl e (List.mem_cons_of_mem _ he)
theorem getK_any {κ : Type} [DecidableEq κ] (k : κ) : ∀ c : List (κ × Int), (KB.getK c k).isSome = c.any fun e => decide (e.1 = k)
  | [] => rfl
  | e :: c => by
    by_cases h : e.1 = k
    · rw [KB.getK_pos h, List.any_cons, decide_eq_true h]
      rfl
    · rw [KB.getK_neg h, List.any_cons, decide_eq_false h, getK_any k c]
      rfl
theorem SRel.put {n : Nat} (hn : n < 6) {k : KB.Stt} (hk : k.1 < KB.num n) {xs : List En} {t : KB.Sts} (r : SRel n xs t) (hl : ∀ e ∈ t, e.1.1 < KB.num n) (b : Addr) (v : Int) : SRel n (putN xs (skey n k) b (.int v)) (KB.putL t k v) := by
  have e : (valN xs (skey n k)).isSome = t.any fun e => decide (e.1 = k) := by
    rw [r.val hn hk hl, Option.isSome_map, getK_any]
  unfold putN KB.putL
  rw [e]
  split
  · next hh =>
    clear hh e
    induction r with
    | nil => exact .nil
    | @cons p q ps qs hq t ih =>
      rw [List.map_cons, List.map_cons]
      refine .cons ?_ (ih (fun e he => hl e (List.mem_cons_of_mem _ he)))
      obtain ⟨h1, h2⟩ := hq
      by_cases e : q.1 = k
      · rw [if_pos (by rw [h1, e]), if_pos e]
        exact ⟨h1, rfl⟩
      · rw [if_neg (fun z => e (skey_inj hn (hl q List.mem_cons_self) hk (h1.symm.trans z))), if_neg e]
        exact ⟨h1, h2⟩
  · exact Paired.snoc r ⟨rfl, rfl⟩
theorem SRel.get {n : Nat} {xs : List En} {t : KB.Sts} (r : SRel n xs t) : ∀ {i : Nat} {e : En}, xs[i]? = some e → ∃ q, t[i]? = some q ∧ e.1 = skey n q.1 ∧ e.2.2 = .int q.2 := by
  induction r with
  | nil => intro i e h; simp at h
  | @cons p q ps qs hq t ih =>
    intro i e h
    cases i with
    | zero =>
      obtain rfl : p = e := Option.some.inj (by simpa using h)
      exact ⟨q, rfl, hq⟩
    | succ i =>
      obtain ⟨t', k⟩ := ih (i := i) (e := e) (by simpa using h)
      exact ⟨t', by simpa using k⟩
theorem SRel.length {n : Nat} {xs : List En} {t : KB.Sts} (r : SRel n xs t) : xs.length = t.length := Paired.length r
theorem getK_nth {κ : Type} [DecidableEq κ] : ∀ {c : List (κ × Int)} {i : Nat} {e : κ × Int}, (c.map (·.1)).Nodup → c[i]? = some e → KB.getK c e.1 = some e.2
  | [], i, e, _, h => by simp at h
  | q :: c, 0, e, _, h => by
    obtain rfl : q = e := Option.some.inj (by simpa using h)
    exact KB.getK_pos rfl
  | q :: c, i + 1, e, nd, h => by
    rw [List.map_cons] at nd
    obtain ⟨n1, n2⟩ := List.nodup_cons.mp nd
    have h' : c[i]? = some e := by simpa using h
    rw [KB.getK_neg (fun z => n1 (List.mem_map.mpr ⟨e, List.mem_of_getElem? h', z.symm⟩))]
    exact getK_nth n2 h'
/-- the puts that are held -/
def PutsOk (n i : Nat) (H : Hp) (ps : List En) : Prop := ∀ e ∈ ps, ∃ y, y < KB.num n ∧ e.1 = xk n y ∧ ∃ p c, e.2.2 = .ref p ∧ H p = some (.tup [.int (KB.rgt n y i).1, .ref c]) ∧ MatH H c n n (KB.mat n (KB.rgt n y i).2)
theorem PutsOk.keepT {n i : Nat} {H H' : Hp} {ps : List En} (s : ∀ b xs, H b = some (.tup xs) → H' b = some (.tup xs)) (h : PutsOk n i H ps) : PutsOk n i H' ps := fun e he => by
  obtain ⟨y, hy, e1, p, c, e2, e3, e4⟩ := h e he
  exact ⟨y, hy, e1, p, c, e2, s _ _ e3, e4.keepT s⟩
theorem valN_mem {k : NestedKey} {v : V} : ∀ {xs : List En}, valN xs k = some v → ∃ e ∈ xs, e.1 = k ∧ e.2.2 = v
  | [], h => by cases h
  | x :: xs, h => by
    by_cases e : x.1 = k
    · rw [valN_pos e] at h
      exact ⟨x, List.mem_cons_self, e, Option.some.inj h⟩
    · rw [valN_neg e] at h
      obtain ⟨e', h1, h2⟩ := valN_mem h
      exact ⟨e', List.mem_cons_of_mem _ h1, h2⟩
theorem valN_snoc {k : NestedKey} {b : Addr} {v : V} : ∀ {xs : List En}, valN xs k = none → valN (xs ++ [(k, b, v)]) k = some v
  | [], _ => valN_pos rfl
  | x :: xs, h => by
    by_cases z : x.1 = k
    · rw [valN_pos z] at h
      cases h
    · rw [valN_neg z] at h
      show valN (x :: (xs ++ _)) _ = _
      rw [valN_neg z]
      exact valN_snoc h
theorem PutsOk.val {n i x : Nat} {H : Hp} {ps : List En} {v : V} (hn : n < 6) (hx : x < KB.num n) (h : PutsOk n i H ps) (hv : valN ps (xk n x) = some v) : ∃ p c, v = .ref p ∧ H p = some (.tup [.int (KB.rgt n x i).1, .ref c]) ∧ MatH H c n n (KB.mat n (KB.rgt n x i).2) := by
  obtain ⟨e, he, e1, e2⟩ := valN_mem hv
  obtain ⟨y, hy, e3, p, c, e4, e5, e6⟩ := h e he
  obtain rfl : y = x := xk_inj hn hy hx (e3.symm.trans e1)
  exact ⟨p, c, e2.symm.trans e4, e5, e6⟩
theorem nx_as {D : Ends} {σ : L2.St} (H8 : Hp) (h : D.nx σ H8) : D.nx σ H8 := h
section
variable {P : Program} {w : World} {K : PySem.W.Frag} {mg : Str → Option Value} {base : Heap}
def spStates (P : Program) (w : World) : Sp := fun vs H Q _ => ∃ (a : Addr) (l : List Int) (n : Nat), vs = [.int n, .ref a] ∧ H a = some (.tup (vi l)) ∧ 0 < n ∧ n < 6 ∧ KB.Word n l ∧ l.length ≤ 12 ∧
  ∀ H' p xs, Same H H' → H p = none → DN P w H' p xs → SRel n xs (KB.stsOf n l) → Q (.ref p) H'
theorem okl_states {f : Addr} {fd : FuncData} (F : Fun K "_law_states" "_law_states" (topS 35) f fd) (T : Bt mg) (cS : Cal P w K mg base "_law_straight" 1 ["_law_size_here"] spStraight) (cH : Cal P w K mg base "_law_hook" 1 ["_law_size_here", "_law_i"] spHook)
    (cP : Cal P w K mg base "_law_put" 1 ["_law_ahead", "_law_behind"] splPut) :
    FnOk P w K mg base CX0 2 f fd ["_law_size_here", "_law_crossings_here"] (spStates P w) := by
  refine F.ok scl_states (fun vs H Q E h => ?_) (fun cdv A outer s H vs Q E hr h => ?_)
  · obtain ⟨a, l, n, rfl, _⟩ := h
    rfl
  · obtain ⟨a, l, n, rfl, ha, h0, h6, hw, h12, q⟩ := h
    have hu := hr.units
    have nd := scl_states.nd
    refine ⟨_, pss_cons (ps_set (i := 2) nd rfl (.inl rfl) pe_nnew)
      (pss_cons (ps_nput hu (pv 2) (pe_tup (pa_cons (pe_cal cS hr (by rfl) (pa_cons (pv 0) pa_nil)) (pa_cons pe_int (pa_cons pe_int pa_nil)))) pe_int rfl)
      (pss_cons (ps_for PassesOwn.never rfl (pi_tup (pv 1)) (pg_name (i := 3) nd rfl (.inl rfl))
        (pss_cons (ps_asg (pe_tup (pa_cons pe_nnew (pa_cons (pe_cal cH hr (by rfl) (pa_cons (pv 0) (pa_cons (pe_op op_sub (pe_callB call_abs (by rfl) T.abs (by decide +kernel) (pa_cons (pv 3) pa_nil)) pe_int) pa_nil))) (pa_cons pe_nnew
            (pa_cons (pe_op op_sub pe_int (pe_op op_mul pe_int (pe_callTy call_int1 (by rfl) T.int (by decide +kernel) (pa_cons (pe_cmpR op_lt (pv 3) pe_int (nomark _)) pa_nil)))) pa_nil)))))
          (pg_tup rfl (pgs_cons (pg_name (i := 4) nd rfl (.inl rfl)) (pgs_cons (pg_name (i := 5) nd rfl (.inl rfl)) (pgs_cons (pg_name (i := 6) nd rfl (.inl rfl)) (pgs_cons (pg_name (i := 7) nd rfl (.inl rfl)) pgs_nil))))))
        (pss_cons (ps_lock (ps_for PassesOwn.never rfl (pi_nkeys (pv 2)) (pg_name (i := 8) nd rfl (.inl rfl))
          (pss_cons (ps_asg (pv 8) (pg_tup rfl (pgs_cons (pg_name (i := 9) nd rfl (.inl rfl)) (pgs_cons (pg_name (i := 10) nd rfl (.inl rfl)) (pgs_cons (pg_name (i := 11) nd rfl (.inl rfl)) pgs_nil)))))
          (pss_cons (ps_if (pt_cmp (pc_nnotin hu (pv 9) (pv 6))) (pss_one (ps_nput hu (pv 6) (pv 9) (pe_cal cP hr (by rfl) (pa_cons (pv 9) (pa_cons (pv 5) pa_nil))) rfl)) pss_nil)
          (pss_cons (ps_asg (pe_nget hu (pv 6) (pv 9) (fun _ _ => rfl)) (pg_tup rfl (pgs_cons (pg_name (i := 12) nd rfl (.inl rfl)) (pgs_cons (pg_name (i := 13) nd rfl (.inl rfl)) pgs_nil))))
          (pss_one (ps_for PassesOwn.never rfl (pi_list (pe_lst (pa_cons (pe_tup (pa_cons (pv 9) (pa_cons (pv 10) (pa_cons (pe_op op_add (pv 11) (pv 7)) pa_nil)))) (pa_cons (pe_tup (pa_cons (pv 13) (pa_cons (pe_op op_add (pv 10) (pv 12)) (pa_cons (pe_op op_sub (pv 11) (pv 7)) pa_nil)))) pa_nil))))
              (pg_name (i := 14) nd rfl (.inl rfl))
            (pss_one (ps_nput hu (pv 4) (pv 14) (pe_op op_add (pe_nget2 hu (pv 4) (pv 14) pe_int ⟨rfl, rfl, rfl, rfl⟩) (pe_nget hu (pv 2) (pv 8) (fun _ _ => rfl))) rfl)))))))))
        (pss_one (ps_set (i := 2) nd rfl (.inl rfl) (pv 4))))))
      (pss_one (ps_ret (pv 2))))), ?_⟩
    -- table = {}; table[straight(n), 0, 0] = 1
    intro tp ntp dn0
    have S0 := same_new (o := nO P w tp []) ntp
    refine ⟨_, rfl, _, rfl, n, rfl, h0, by omega, fun H1 sb sH1 mb => ?_⟩
    refine ⟨by show 3 ≤ sizeLine; decide, fun t0 nt0 => ?_⟩
    have S1 := sH1.trans (same_new (o := .tup [.ref sb, .int 0, .int 0]) nt0)
    have dn1 := dn0.keep S1
    have mb1 : MatH (upd H1 t0 (.tup [.ref sb, .int 0, .int 0])) sb n n (KB.mat n 0) := by rw [KB.mat_zero n h6 h0]; exact mb.keep (same_new nt0)
    refine ⟨tp, t0, [], skey n (0, 0, 0), rfl, rfl, dn1, key_st (k := (0, 0, 0)) upd_same (key_mat mb1), depth_skey _ _, by show 0 < sizeLine; decide, fun dn2 => ?_⟩
    have S2 := put_same (S0.trans S1) ntp (o := nO P w tp (putN [] (skey n (0, 0, 0)) t0 (.int 1)))
    refine ⟨_, rfl, a, rfl, ⟨_, SqT.of (S2 _ _ ha)⟩, ?_⟩
    refine for_tup (xs := vi l) (fun k σ H3 => ∃ (ta : Addr) (xs : List En) (y3 y4 y5 y6 y7 y8 y9 y10 y11 y12 y13 y14 : Option V), σ = [some (.int n), some (.ref a), some (.ref ta), y3, y4, y5, y6, y7, y8, y9, y10, y11, y12, y13, y14] ∧ Same H H3 ∧ H ta = none ∧ DN P w H3 ta xs ∧ SRel n xs (KB.stsOf n (l.take k)))
      ⟨tp, _, none, none, none, none, none, none, none, none, none, none, none, none, rfl, S2, ntp, dn2, .cons ⟨rfl, rfl⟩ .nil⟩ (fun k σ H3 _ h => by obtain ⟨_, _, _, _, _, _, _, _, _, _, _, _, _, _, _, s, _⟩ := h; exact SqT.of (s _ _ ha)) ?_ ?_
    · rintro k x H3 H3' hx ⟨ta, xs, y3, y4, y5, y6, y7, y8, y9, y10, y11, y12, y13, y14, rfl, s3, nta, d3, r3⟩
      obtain ⟨c, hc, rfl⟩ := vi_get hx
      have hk : k < l.length := (List.getElem?_eq_some_iff.mp hc).1
      have okc : KB.Ok n c := hw c (List.mem_of_getElem? hc)
      have wk : KB.Word n (l.take k) := fun d hd => hw d (List.mem_of_mem_take hd)
      have hlk : (l.take k).length ≤ 11 := by rw [List.length_take]; omega
      have tok := KB.stsOf_ok h6 h0 wk
      have tln : (KB.stsOf n (l.take k)).length ≤ 2048 := Nat.le_trans (KB.stsOf_len h6 h0 wk) (Nat.le_trans (Nat.pow_le_pow_right (by decide) hlk) (by decide))
      have tnx : KB.stsOf n (l.take (k + 1)) = KB.stepS n c (KB.stsOf n (l.take k)) := by
        unfold KB.stsOf
        rw [take_succ hc, List.foldl_append]
        rfl
      generalize htab : KB.stsOf n (l.take k) = st at *
      generalize hkl : (l.take k).length = kl at *
      -- found, hook, puts, step = {}, hook(..), {}, 1 - 2 * int(number < 0)
      intro fa nfa dnf
      have S4a := same_new (o := nO P w fa []) nfa
      refine ⟨_, rfl, _, rfl, _, rfl, _, _, rfl, rfl, n, KB.ix c, by show [V.int (n : Int), V.int ((if c < 0 then -c else c) - 1)] = _; rw [abs_ix okc.1], okc.lt, by omega, fun H4 hb sH4 mh => ?_⟩
      intro pa npa dnp
      have S4b := same_new (o := nO P w pa []) npa
      refine ⟨_, rfl, _, _, rfl, rfl, .inr ⟨_, rfl, _, _, rfl, rfl, .inl ⟨by decide, by decide⟩, _, _, rfl, rfl, ?_⟩⟩
      refine ⟨by show 4 ≤ sizeLine; decide, fun tt ntt => ?_⟩
      refine ⟨tt, _, rfl, SqT.of upd_same, rfl, _, _, rfl, _, _, rfl, _, _, rfl, _, _, rfl, rfl, ?_⟩
      have es : some (V.int (KB.sg c)) = some (V.int (1 - 2 * (if decide (c < 0) = true then 1 else 0))) := by
        unfold KB.sg
        by_cases z : c < 0
        · rw [if_pos z, if_pos (decide_eq_true z)]
          rfl
        · rw [if_neg z, if_neg (by simpa using z)]
          rfl
      have S46 := S4b.trans (same_new (o := .tup [.ref fa, .ref hb, .ref pa, .int (1 - 2 * (if decide (c < 0) = true then 1 else 0))]) ntt)
      have S36 := (S4a.trans sH4).trans S46
      have d6 := d3.keep S36
      have dnf6 := dnf.keep (sH4.trans S46)
      have dnp6 := dnp.keep (same_new (o := .tup [.ref fa, .ref hb, .ref pa, .int (1 - 2 * (if decide (c < 0) = true then 1 else 0))]) ntt)
      have taf : ta ≠ fa := ne_of_none d3.2 nfa
      have tap : ta ≠ pa := ne_of_none (sH4 _ _ (S4a _ _ d3.2)) npa
      have fp : fa ≠ pa := ne_of_none (sH4 _ _ upd_same) npa
      have npa3 : H3' pa = none := (S4a.trans sH4).free npa
      -- for state in table
      refine ⟨ta, _, d6.2, trivial, fun od => ?_⟩
      refine ⟨_, rfl, ta, od, xs, rfl, d6.1.sys, upd_same, ?_⟩
      refine for_it walk_n (fun i σ H5 => ∃ (zs ps : List En) (y8 y9 y10 y11 y12 y13 y14 : Option V), σ = [some (.int n), some (.ref a), some (.ref ta), some (.int c), some (.ref fa), some (.ref hb), some (.ref pa), some (.int (KB.sg c)), y8, y9, y10, y11, y12, y13, y14] ∧
          SmB ta H3' H5 ∧ H5 ta = some (.frz od (nO P w ta xs)) ∧ DN P w H5 fa zs ∧ SRel n zs ((st.take i).foldl (KB.turnS n c) []) ∧ DN P w H5 pa ps ∧ PutsOk n (KB.ix c) H5 ps ∧ ps.length ≤ i ∧ MatH H5 hb n n (KB.hookL n (KB.ix c)))
        ⟨[], [], _, _, _, _, _, _, _, by rw [es]; rfl, fun u o eu hu' => by rw [upd_ne hu']; exact S36 _ _ eu, upd_same, ⟨dnf6.1.keep fun b ys e => by rw [upd_ne (some_ne e d6.2)]; exact e, by rw [upd_ne taf.symm]; exact dnf6.2⟩, .nil,
          ⟨dnp6.1.keep fun b ys e => by rw [upd_ne (some_ne e d6.2)]; exact e, by rw [upd_ne tap.symm]; exact dnp6.2⟩, fun _ he => (nomatch he), Nat.le_refl _, mh.keepT fun b ys e => by rw [upd_ne (some_ne (S46 _ _ e) d6.2)]; exact S46 _ _ e⟩
        (fun i σ H5 _ h => by obtain ⟨_, _, _, _, _, _, _, _, _, _, _, h, _⟩ := h; exact h) ?_ ?_
      · rintro i x0 σ H5 H5' hi ⟨zs, ps, y8, y9, y10, y11, y12, y13, y14, rfl, s5, e5, dz, rz, dp, po, lp, mh5⟩ ⟨rfl, en, hen, rfl⟩
        obtain ⟨⟨⟨x, r, p⟩, v⟩, hte, hk1, hk2⟩ := r3.get hen
        simp only at hk1 hk2
        have hx6 : x < KB.num n := tok.lt _ (List.mem_of_getElem? hte)
        have hrk : r ≤ kl := tok.le _ (List.mem_of_getElem? hte)
        have f5 : ∀ b ys, H3' b = some (.tup ys) → H5' b = some (.tup ys) := s5.tup d3.2 fun xs z => nomatch z
        have kv : KeyV H5' (skey n (x, r, p)) (.ref en.2.1) := KeyV.keep f5 _ _ (hk1 ▸ (d3.1.key _ (List.mem_of_getElem? hen)).1)
        obtain ⟨m, em, km⟩ := st_key kv
        simp only at km
        have hlt : ∀ e ∈ st.take i, e.1.1 < KB.num n := fun e he => tok.lt e (List.mem_of_mem_take he)
        have hle : ∀ e ∈ st.take i, e.1.2.1 ≤ kl := fun e he => tok.le e (List.mem_of_mem_take he)
        obtain ⟨fok, _, fln⟩ := KB.foldS h6 okc (fun _ => KB.dl) (st.take i) [] (KB.StsOk.nil n (kl + 1)) hlt hle
        have lti : (st.take i).length ≤ st.length := by rw [List.length_take]; omega
        have ehf : (st.take (i + 1)).foldl (KB.turnS n c) [] = KB.turnS n c ((st.take i).foldl (KB.turnS n c) []) ((x, r, p), v) := by rw [take_succ hte, List.foldl_append]; rfl
        have el : ([] : KB.Sts).length = 0 := rfl
        have lxs := r3.length
        rw [ehf]
        generalize hft : (st.take i).foldl (KB.turnS n c) [] = ft at *
        have hvx : valN xs (skey n (x, r, p)) = some (.int v) := by rw [r3.val h6 hx6 tok.lt, getK_nth tok.nd hte]; rfl
        refine ⟨_, rfl, en.2.1, _, rfl, SqT.of em, rfl, _, _, rfl, _, _, rfl, _, _, rfl, rfl, ?_⟩
        refine ⟨_, rfl, _, rfl, pa, m, ps, xk n x, rfl, rfl, dp.r, km, depth_mkey _ _, _, rfl, ?_⟩
        cases hv : valN ps (xk n x)
        case' some v0 =>
          refine iteF ?_
          obtain ⟨H8, eH8⟩ : ∃ H8, H8 = H5' := ⟨_, rfl⟩
          rw [← eH8] at s5 e5 dz dp po mh5 km kv ⊢
          obtain ⟨ps8, eps⟩ : ∃ ps8, ps8 = ps := ⟨_, rfl⟩
          rw [← eps] at dp po lp hv
          have dp8 := dp
          have po8 := po
          have lp8 : ps8.length ≤ i + 1 := by omega
          have hv8 := hv
        case' none =>
          refine iteT ⟨_, rfl, _, rfl, m, hb, n, n, n, n, KB.mat n x, KB.hookL n (KB.ix c), (KB.rgt n x (KB.ix c)).1, KB.mat n (KB.rgt n x (KB.ix c)).2, rfl, mat_key km, mh5, by omega, by omega, KB.lwPut_mat n h6 x hx6 _ okc.lt, fun H7 t7 c7 s7 ht7 hm7 => ?_⟩
          refine ⟨_, rfl, _, rfl, pa, m, ps, xk n x, rfl, rfl, dp.keep s7, KeyV.keep (fun b ys e => s7 _ _ e) _ _ km, depth_mkey _ _, by rw [sizeLine_eq]; omega, fun dp7 => ?_⟩
          rw [putN_new hv] at dp7 ⊢
          have g7 : ∀ u o, H5' u = some o → u ≠ pa → (upd H7 pa (nO P w pa (ps ++ [(xk n x, m, .ref t7)]))) u = some o := fun u o eu hu' => by rw [upd_ne hu']; exact s7 _ _ eu
          have gt7 : ∀ b ys, H7 b = some (.tup ys) → (upd H7 pa (nO P w pa (ps ++ [(xk n x, m, .ref t7)]))) b = some (.tup ys) := fun b ys e => by rw [upd_ne (some_ne e (s7 _ _ dp.2))]; exact e
          have gt5 : ∀ b ys, H5' b = some (.tup ys) → (upd H7 pa (nO P w pa (ps ++ [(xk n x, m, .ref t7)]))) b = some (.tup ys) := fun b ys e => gt7 _ _ (s7 _ _ e)
          have s5 : SmB ta H3' (upd H7 pa (nO P w pa (ps ++ [(xk n x, m, .ref t7)]))) := fun u o eu hu' => g7 _ _ (s5 _ _ eu hu') (ne_of_none eu npa3)
          have e5 := g7 _ _ e5 tap
          have dz : DN P w (upd H7 pa (nO P w pa (ps ++ [(xk n x, m, .ref t7)]))) fa zs := ⟨dz.1.keep gt5, g7 _ _ dz.2 fp⟩
          have mh5 := mh5.keepT gt5
          have km := KeyV.keep gt5 _ _ km
          have kv := KeyV.keep gt5 _ _ kv
          have dp8 : DN P w (upd H7 pa (nO P w pa (ps ++ [(xk n x, m, V.ref t7)]))) pa (ps ++ [(xk n x, m, V.ref t7)]) := dp7
          have po8 : PutsOk n (KB.ix c) (upd H7 pa (nO P w pa (ps ++ [(xk n x, m, .ref t7)]))) (ps ++ [(xk n x, m, .ref t7)]) := fun e he => by
            rcases List.mem_append.mp he with z | z
            · exact (po.keepT gt5) e z
            · have : e = (xk n x, m, V.ref t7) := by simpa using z
              subst this
              exact ⟨x, hx6, rfl, t7, c7, rfl, gt7 _ _ ht7, hm7.keepT gt7⟩
          have lp8 : (ps ++ [(xk n x, m, V.ref t7)]).length ≤ i + 1 := by rw [List.length_append]; show ps.length + 1 ≤ i + 1; omega
          have hv8 := valN_snoc (b := m) (v := .ref t7) hv
          clear gt5 gt7 g7 dp7
          refine nx_as (upd H7 pa (nO P w pa (ps ++ [(xk n x, m, V.ref t7)]))) ?_
          generalize upd H7 pa (nO P w pa (ps ++ [(xk n x, m, V.ref t7)])) = H8 at *
          generalize ps ++ [(xk n x, m, V.ref t7)] = ps8 at *
        all_goals
          obtain ⟨p8, c8, ev8, ep8, mc8⟩ := po8.val h6 hx6 hv8
          rw [ev8] at hv8
          refine ⟨_, rfl, _, rfl, pa, m, ps8, xk n x, _, rfl, rfl, dp8.r, km, depth_mkey _ _, hv8, p8, _, rfl, SqT.of ep8, rfl, _, _, rfl, _, _, rfl, rfl, ?_⟩
          have hy6 := KB.rgt_lt n h6 x hx6 _ okc.lt
          generalize hyy : (KB.rgt n x (KB.ix c)).2 = y at *
          have hr1' := KB.rgt_le n h6 x hx6 _ okc.lt
          generalize hrr : (KB.rgt n x (KB.ix c)).1 = rr at *
          refine ⟨_, rfl, _, rfl, _, rfl, _, rfl, _, _, rfl, rfl, by show 3 ≤ sizeLine; decide, fun g1 ng1 => ?_⟩
          refine ⟨_, rfl, _, rfl, _, rfl, _, _, rfl, rfl, _, rfl, _, rfl, _, _, rfl, rfl, by show 3 ≤ sizeLine; decide, fun g2 ng2 => ?_⟩
          refine ⟨by show 2 ≤ sizeLine; decide, fun gl ngl => ?_⟩
          refine ⟨gl, rfl, ⟨_, SqL.of upd_same⟩, ?_⟩
          have S91 := same_new (o := .tup [.ref m, .int r, .int (p + KB.sg c)]) ng1
          have S92 := same_new (o := .tup [.ref c8, .int ((r : Int) + rr), .int (p - KB.sg c)]) ng2
          have S93 := same_new (o := .lst [.ref g1, .ref g2]) ngl
          have S9 := (S91.trans S92).trans S93
          have K1 : KeyV _ (skey n (x, r, p + KB.sg c)) (.ref g1) := key_st (k := (x, r, p + KB.sg c)) (S93 _ _ (S92 _ _ upd_same)) (KeyV.keep (fun b ys e => S9 _ _ e) _ _ km)
          have K2 : KeyV _ (skey n (y, r + rr, p - KB.sg c)) (.ref g2) := key_st (k := (y, r + rr, p - KB.sg c)) (m := c8) (S93 _ _ (by rw [upd_same]; show some (HO.tup [.ref c8, .int ((r : Int) + rr), .int (p - KB.sg c)]) = some (HO.tup [.ref c8, .int ((r + rr : Nat) : Int), .int (p - KB.sg c)]); rw [show ((r + rr : Nat) : Int) = (r : Int) + rr by omega])) (KeyV.keep (fun b ys e => S9 _ _ e) _ _ (key_mat mc8))
          have kv9 := KeyV.keep (fun b ys e => S9 _ _ e) _ _ kv
          generalize hH9 : upd (upd (upd H8 g1 (HO.tup [.ref m, .int r, .int (p + KB.sg c)])) g2 (HO.tup [.ref c8, .int ((r : Int) + rr), .int (p - KB.sg c)])) gl (HO.lst [.ref g1, .ref g2]) = H9 at *
          have egl : H9 gl = some (.lst [.ref g1, .ref g2]) := by rw [← hH9]; exact upd_same
          have dz9 := dz.keep S9
          have okf : ∀ j, ((([(x, r, p + KB.sg c), (y, r + rr, p - KB.sg c)] : List KB.Stt).take j).foldl (fun f k => KB.bump f k v) ft).length ≤ ft.length + 2 ∧ KB.StsOk n (kl + 1) ((([(x, r, p + KB.sg c), (y, r + rr, p - KB.sg c)] : List KB.Stt).take j).foldl (fun f k => KB.bump f k v) ft) := by
            have q1 := fok.bump (s := (x, r, p + KB.sg c)) v hx6 (by show r ≤ kl + 1; omega)
            have q2 := q1.bump (s := (y, r + rr, p - KB.sg c)) v hy6 (by show r + rr ≤ kl + 1; omega)
            have l1 := KB.len_bump ft (x, r, p + KB.sg c) v
            have l2 := KB.len_bump (KB.bump ft (x, r, p + KB.sg c) v) (y, r + rr, p - KB.sg c) v
            intro j
            match j with
            | 0 => exact ⟨by show ft.length ≤ _; omega, fok⟩
            | 1 => exact ⟨by show (KB.bump ft _ v).length ≤ _; omega, q1⟩
            | j + 2 =>
              rw [List.take_of_length_le (by simp)]
              exact ⟨by show (KB.bump (KB.bump ft _ v) _ v).length ≤ _; omega, q2⟩
          refine for_list (xs := [.ref g1, .ref g2]) (fun j σ H10 => ∃ (zs' : List En) (y14 : Option V), σ = [some (.int n), some (.ref a), some (.ref ta), some (.int c), some (.ref fa), some (.ref hb), some (.ref pa), some (.int (KB.sg c)), some (.ref en.2.1), some (.ref m), some (.int r), some (.int p), some (.int rr), some (.ref c8), y14] ∧
              SmB fa H9 H10 ∧ DN P w H10 fa zs' ∧ SRel n zs' ((([(x, r, p + KB.sg c), (y, r + rr, p - KB.sg c)] : List KB.Stt).take j).foldl (fun f k => KB.bump f k v) ft))
            ⟨zs, y14, rfl, fun u o eu _ => eu, dz9, rz⟩ (fun j σ H10 _ h => by obtain ⟨_, _, _, h, d, _⟩ := h; exact SqL.of (h _ _ egl (some_ne egl dz9.2))) ?_ ?_
          · rintro j xg σ H10 hx ⟨zs', y14, rfl, s10, d10, r10⟩
            obtain ⟨kk, g, hkk, rfl, kg, hk6⟩ : ∃ (kk : KB.Stt) (g : Addr), ([(x, r, p + KB.sg c), (y, r + rr, p - KB.sg c)] : List KB.Stt)[j]? = some kk ∧ xg = .ref g ∧ KeyV H9 (skey n kk) (.ref g) ∧ kk.1 < KB.num n := by
              match j, hx with
              | 0, hx => cases hx; exact ⟨_, g1, rfl, rfl, K1, hx6⟩
              | 1, hx => cases hx; exact ⟨_, g2, rfl, rfl, K2, hy6⟩
              | j + 2, hx => simp at hx
            have okj := (okf j).2
            have lnj := (okf j).1
            have lz := r10.length
            have f10 : ∀ b ys, H9 b = some (.tup ys) → H10 b = some (.tup ys) := s10.tup dz9.2 fun xs z => nomatch z
            have kg10 := KeyV.keep f10 _ _ kg
            have kv10 := KeyV.keep f10 _ _ kv9
            have eta : H10 ta = some (.frz od (nO P w ta xs)) := s10 _ _ (S9 _ _ e5) taf
            have dnr : DNr P w H10 ta xs := ⟨d3.1.keep fun b ys e => f10 _ _ (S9 _ _ (s5 _ _ e (some_ne e d3.2))), .inr ⟨od, eta⟩⟩
            rw [take_succ hkk, List.foldl_append]
            generalize htb : (([(x, r, p + KB.sg c), (y, r + rr, p - KB.sg c)] : List KB.Stt).take j).foldl (fun f k => KB.bump f k v) ft = tb at *
            have hz : (valN zs' (skey n kk)).getD (.int 0) = .int ((KB.getK tb kk).getD 0) := by
              rw [r10.val h6 hk6 okj.lt]
              cases KB.getK tb kk <;> rfl
            refine ⟨_, rfl, fa, rfl, ⟨zs', d10.r⟩, _, rfl, g, zs', skey n kk, rfl, d10.r, kg10, depth_skey _ _, ?_⟩
            refine ⟨_, rfl, _, rfl, ta, en.2.1, xs, skey n (x, r, p), .int v, rfl, rfl, dnr, kv10, depth_skey _ _, hvx, _, _, hz, rfl, ?_⟩
            refine ⟨_, rfl, _, rfl, fa, g, zs', skey n kk, rfl, rfl, d10, kg10, depth_skey _ _, by rw [sizeLine_eq]; omega, fun dn => ?_⟩
            exact ⟨_, _, rfl, fun u o eu hu' => by rw [upd_ne hu']; exact s10 _ _ eu hu', dn, r10.put h6 hk6 okj.lt _ _⟩
          · rintro σ H10 ⟨zs', y14, rfl, s10, d10, r10⟩
            have f10 : ∀ b ys, H9 b = some (.tup ys) → H10 b = some (.tup ys) := s10.tup dz9.2 fun xs z => nomatch z
            have f8 : ∀ b ys, H8 b = some (.tup ys) → H10 b = some (.tup ys) := fun b ys e => f10 _ _ (S9 _ _ e)
            exact ⟨zs', ps8, _, _, _, _, _, _, _, rfl, fun u o eu hu' => s10 _ _ (S9 _ _ (s5 _ _ eu hu')) (ne_of_none eu nfa), s10 _ _ (S9 _ _ e5) taf, d10, by unfold KB.turnS; simp only; rw [hrr, hyy]; exact r10,
              ⟨dp8.1.keep f8, s10 _ _ (S9 _ _ dp8.2) fp.symm⟩, po8.keepT f8, lp8, mh5.keepT f8⟩
      · rintro σ H5 ⟨zs, ps, y8, y9, y10, y11, y12, y13, y14, rfl, s5, e5, dz, rz, dp, po, lp, mh5⟩
        have lxs := r3.length
        rw [lxs, List.take_of_length_le (Nat.le_refl _)] at rz
        refine ⟨e5, _, rfl, fa, zs, _, _, _, _, _, _, _, _, _, _, _, _, rfl, fun u o eu => ?_, s3.free nfa, ?_, ?_⟩
        · have ut : u ≠ ta := ne_of_none eu nta
          rw [upd_ne ut]
          exact s5 _ _ (s3 _ _ eu) ut
        · exact ⟨dz.1.keep fun b ys e => by rw [upd_ne (some_ne e e5)]; exact e, by rw [upd_ne taf.symm]; exact dz.2⟩
        · rw [tnx]
          exact rz
    · rintro σ H3 ⟨ta, xs, y3, y4, y5, y6, y7, y8, y9, y10, y11, y12, y13, y14, rfl, s3, nta, d3, r3⟩
      rw [List.length_map, List.take_of_length_le (Nat.le_refl _)] at r3
      exact ⟨_, rfl, q H3 ta xs s3 nta d3 r3⟩
end
end KP

set_option Elab.async false
set_option linter.all false
set_option maxRecDepth 100000
set_option maxHeartbeats 4000000
namespace KP
open PySem PySem.Spec L2 KN
open PyProof.Rows hiding St
theorem scl_due : FnScope ["_law_size_here", "_law_crossings_here", "_law_row", "_law_states_here", "_law_turns", "_law_state", "_law_mesh", "_law_rings", "_law_power", "_law_times", "_law_number"] ["_law_size_here", "_law_crossings_here"] (defScope (topS 42)) := ⟨rfl, rfl, rfl, by decide +kernel, rfl, by decide +kernel, by decide +kernel⟩
section
variable {P : Program} {w : World} {K : PySem.W.Frag} {mg : Str → Option Value} {base : Heap}
/-- what both tell: the polynomial of the closed word -/
def spDue : Sp := fun vs H Q _ => ∃ (a : Addr) (l : List Int) (n : Nat), vs = [.int n, .ref a] ∧ H a = some (.tup (vi l)) ∧ 0 < n ∧ n < 6 ∧ KB.Word n l ∧ l.length ≤ 12 ∧
  ∀ H' p L, Same H H' → KB.Canon L (KB.poly n l) → LpAt H' p L → Q (.ref p) H'
theorem okl_due {f : Addr} {fd : FuncData} (F : Fun K "_law_due" "_law_due" (topS 42) f fd) (T : Bt mg) (cS : Cal P w K mg base "_law_states" 2 ["_law_size_here", "_law_crossings_here"] (spStates P w))
    (cW : Cal P w K mg base "_law_with_rings" 2 ["_law_row", "_law_rings", "_law_power", "_law_times"] spLw) (cC : Cal P w K mg base "_law_closed_rings" 1 ["_law_mesh"] splClosed) (cL : Cal P w K mg base "_law_laurent" 1 ["_law_row"] spLau) :
    FnOk P w K mg base CX0 3 f fd ["_law_size_here", "_law_crossings_here"] spDue := by
  refine F.ok scl_due (fun vs H Q E h => ?_) (fun cdv A outer s H vs Q E hr h => ?_)
  · obtain ⟨a, l, n, rfl, _⟩ := h
    rfl
  · obtain ⟨a, l, n, rfl, ha, h0, h6, hw, h12, q⟩ := h
    have hu := hr.units
    have hr1 : Room 1 _ := hr.mono (by decide)
    have nd := scl_due.nd
    refine ⟨_, pss_cons (ps_par (i := 2) (j := 3) rfl nd rfl rfl (by decide) rfl rfl (pa_cons pe_dnewK (pa_cons (pe_cal cS hr (by rfl) (pa_cons (pv 0) (pa_cons (pv 1) pa_nil))) pa_nil)) (by rfl))
      (pss_cons (ps_set (i := 4) nd rfl (.inl rfl) (pe_callB (cr_sum rfl) (by rfl) T.sum (by decide +kernel) (pa_cons
        (pe_lc (own := [("_law_number", 10)]) (g := gName 10) (tt := tYes) (by rfl) nd (pi_tup (pv 1)) (blkOk_by (own := [("_law_number", 10)]) (N := ["_law_size_here", "_law_crossings_here", "_law_row", "_law_states_here", "_law_turns", "_law_state", "_law_mesh", "_law_rings", "_law_power", "_law_times", "_law_number"]) (sc := defScope (topS 42)) (by decide +kernel))
          (fun _ _ _ _ _ => pg_name (i := 10) nd rfl (Or.inl rfl)) (fun _ _ _ _ _ => pts_nil)
          (fun _ _ _ _ _ => pe_op op_sub pe_int (pe_op op_mul pe_int (pe_callTy call_int1 (by rfl) T.int (by decide +kernel) (pa_cons (pe_cmpR op_lt (pv 10) pe_int (nomark _)) pa_nil))))) pa_nil)))
      (pss_cons (ps_lock (ps_for PassesOwn.never rfl (pi_nkeys (pv 3)) (pg_name (i := 5) nd rfl (.inl rfl))
        (pss_cons (ps_asg (pv 5) (pg_tup rfl (pgs_cons (pg_name (i := 6) nd rfl (.inl rfl)) (pgs_cons (pg_name (i := 7) nd rfl (.inl rfl)) (pgs_cons (pg_name (i := 8) nd rfl (.inl rfl)) pgs_nil)))))
        (pss_cons (ps_set (i := 9) nd rfl (.inl rfl) (pe_op op_mul (pe_nget hu (pv 3) (pv 5) (fun _ _ => rfl)) (pe_op op_sub pe_int (pe_op op_mul pe_int (pe_op op_mod (pe_callTy call_int1 (by rfl) T.int (by decide +kernel) (pa_cons (pv 4) pa_nil)) pe_int)))))
        (pss_one (ps_expr (pe_cal cW hr (by rfl) (pa_cons (pv 2) (pa_cons (pe_op op_sub (pe_op op_add (pv 7) (pe_cal cC hr1 (by rfl) (pa_cons (pv 6) pa_nil))) pe_int) (pa_cons (pe_op op_sub (pv 8) (pe_op op_mul pe_int (pv 4))) (pa_cons (pv 9) pa_nil)))))))))))
      (pss_one (ps_ret (pe_cal cL hr1 (by rfl) (pa_cons (pv 2) pa_nil)))))), ?_⟩
    -- row, states = {}, _law_states(..)
    intro ra nra
    have S0 := same_new (o := .dK []) nra
    refine ⟨_, rfl, _, rfl, a, l, n, rfl, S0 _ _ ha, h0, h6, hw, h12, fun H1 ta xs s1 nta d1 r1 => ?_⟩
    refine ⟨_, _, rfl, ?_⟩
    have tok := KB.stsOf_ok h6 h0 hw
    have tln : (KB.stsOf n l).length ≤ 4096 := Nat.le_trans (KB.stsOf_len h6 h0 hw) (Nat.le_trans (Nat.pow_le_pow_right (by decide) h12) (by decide))
    have era1 : H1 ra = some (.dK []) := s1 _ _ upd_same
    -- turns = sum(..)
    refine ⟨_, rfl, a, rfl, ⟨_, SqT.of (s1 _ _ (S0 _ _ ha))⟩, fun D nD => ?_⟩
    refine lc_tup (xs := vi l) (fun i H2 => Same H1 H2 ∧ H2 D = some (.lst (vi ((l.take i).map KB.sg)))) ⟨same_new nD, upd_same⟩ (fun i H2 _ h => SqT.of (h.1 _ _ (s1 _ _ (S0 _ _ ha)))) ?_ ?_
    · rintro i x H2 hx ⟨s2, e2⟩
      obtain ⟨c, hc, rfl⟩ := vi_get hx
      refine ⟨rfl, ?_⟩
      refine ⟨_, rfl, _, _, rfl, rfl, .inr ⟨_, rfl, _, _, rfl, rfl, .inl ⟨by decide, by decide⟩, _, _, rfl, rfl, ?_⟩⟩
      refine ⟨_, e2, by rw [List.length_map, List.length_map, List.length_take, sizeLine_eq]; omega, put_same s2 nD, ?_⟩
      have es : V.int (KB.sg c) = V.int (1 - 2 * (if decide (c < 0) = true then 1 else 0)) := by
        unfold KB.sg
        by_cases z : c < 0
        · rw [if_pos z, if_pos (decide_eq_true z)]
          rfl
        · rw [if_neg z, if_neg (by simpa using z)]
          rfl
      rw [upd_same, take_succ hc, List.map_append, vi_app]
      show some (HO.lst (_ ++ [V.int (1 - 2 * (if decide (c < 0) = true then 1 else 0))])) = _
      rw [← es]
      rfl
    rintro H2 ⟨s2, e2⟩
    rw [List.length_map, List.take_of_length_le (Nat.le_refl _)] at e2
    refine ⟨D, l.map KB.sg, rfl, SqL.of e2, ?_⟩
    rw [show (l.map KB.sg).sum = KB.wr l from rfl]
    generalize hwr : KB.wr l = t
    generalize hst : KB.stsOf n l = st at *
    have d2 := d1.keep s2
    have rta : ra ≠ ta := some_ne era1 d1.2
    have era2 := s2 _ _ era1
    refine ⟨ta, _, d2.2, trivial, fun od => ?_⟩
    refine ⟨_, rfl, ta, od, xs, rfl, d2.1.sys, upd_same, ?_⟩
    refine for_it walk_n (fun i σ H3 => ∃ (y5 y6 y7 y8 y9 y10 : Option V), σ = [some (.int n), some (.ref a), some (.ref ra), some (.ref ta), some (.int t), y5, y6, y7, y8, y9, y10] ∧
        (∀ u o, H2 u = some o → u ≠ ta → u ≠ ra → H3 u = some o) ∧ H3 ta = some (.frz od (nO P w ta xs)) ∧ H3 ra = some (.dK (kc ((st.take i).foldl (KB.dueT n t) []))))
      ⟨_, _, _, _, _, _, rfl, fun u o eu h1 _ => by rw [upd_ne h1]; exact eu, upd_same, by rw [upd_ne rta]; exact era2⟩
      (fun i σ H3 _ h => by obtain ⟨_, _, _, _, _, _, _, _, h, _⟩ := h; exact h) ?_ ?_
    · rintro i x0 σ H3 H3' hi ⟨y5, y6, y7, y8, y9, y10, rfl, s3, e3, er⟩ ⟨rfl, en, hen, rfl⟩
      obtain ⟨⟨⟨x, r, p⟩, v⟩, hte, hk1, hk2⟩ := r1.get hen
      simp only at hk1 hk2
      have hx6 : x < KB.num n := tok.lt _ (List.mem_of_getElem? hte)
      have hrk : r ≤ l.length := tok.le _ (List.mem_of_getElem? hte)
      have f3 : ∀ b ys, H2 b = some (.tup ys) → H3' b = some (.tup ys) := fun b ys e => s3 _ _ e (some_ne e d2.2) (some_ne e era2)
      have kv : KeyV H3' (skey n (x, r, p)) (.ref en.2.1) := KeyV.keep f3 _ _ (hk1 ▸ (d2.1.key _ (List.mem_of_getElem? hen)).1)
      obtain ⟨m, em, km⟩ := st_key kv
      simp only at km
      have hvx : valN xs (skey n (x, r, p)) = some (.int v) := by rw [r1.val h6 hx6 tok.lt, getK_nth tok.nd hte]; rfl
      have dnr : DNr P w H3' ta xs := ⟨d2.1.keep f3, .inr ⟨od, e3⟩⟩
      have hcl := KB.clo_pos n h6 x hx6
      have hlt : ∀ e ∈ st.take i, e.1.1 < KB.num n := fun e he => tok.lt e (List.mem_of_mem_take he)
      have hle : ∀ e ∈ st.take i, e.1.2.1 ≤ l.length := fun e he => tok.le e (List.mem_of_mem_take he)
      obtain ⟨_, _, fln⟩ := KB.due_fold h6 h12 t (st.take i) [] hlt hle List.nodup_nil
      have lti : (st.take i).length ≤ st.length := by rw [List.length_take]; omega
      have el : ([] : KB.LP).length = 0 := rfl
      refine ⟨_, rfl, en.2.1, _, rfl, SqT.of em, rfl, _, _, rfl, _, _, rfl, _, _, rfl, rfl, ?_⟩
      have hs1 : (-2 ^ 64 : Int) ≤ 1 - 2 * (t % 2) ∧ 1 - 2 * (t % 2) ≤ (2 ^ 64 : Int) := by omega
      refine ⟨_, rfl, _, rfl, ta, en.2.1, xs, skey n (x, r, p), .int v, rfl, rfl, dnr, kv, depth_skey _ _, hvx, ?_⟩
      refine ⟨_, rfl, .inl ⟨_, rfl, _, _, rfl, rfl, by show (0 : Int) < 2; decide, _, _, rfl, rfl, .inl ⟨by decide, by decide⟩, _, _, rfl, rfl, _, _, rfl, rfl, .inr ?_, ?_⟩⟩
      · exact ⟨by omega, by omega⟩
      refine ⟨_, rfl, _, rfl, _, rfl, m, n, KB.mat n x, KB.clo n x, rfl, mat_key km, h0, by omega, KB.lcAll_clo n h6 x hx6, fun H4 s4 => ?_⟩
      refine ⟨_, _, rfl, rfl, _, _, rfl, rfl, _, rfl, _, rfl, _, _, rfl, rfl, .inl ⟨by decide, by decide⟩, _, _, rfl, rfl, _, rfl, ?_⟩
      refine ⟨ra, _, r + KB.clo n x - 1, p - 3 * t, v * KB.sgp t, by show [V.ref ra, V.int ((r : Int) + KB.clo n x - 1), _, _] = _; rw [show (r : Int) + KB.clo n x - 1 = ((r + KB.clo n x - 1 : Nat) : Int) by omega]; rfl, s4 _ _ er, by omega, by rw [sizeLine_eq]; omega, fun H5 s5 er5 => ?_⟩
      refine ⟨_, _, _, _, _, _, rfl, fun u o eu h1 h2 => s5 _ _ (s4 _ _ (s3 _ _ eu h1 h2)) h2, s5 _ _ (s4 _ _ e3) rta.symm, ?_⟩
      rw [er5, take_succ hte, List.foldl_append]
      rfl
    · rintro σ H3 ⟨y5, y6, y7, y8, y9, y10, rfl, s3, e3, er⟩
      have lxs := r1.length
      rw [lxs, List.take_of_length_le (Nat.le_refl _)] at er
      have ed : st.foldl (KB.dueT n t) [] = KB.dueRow n l := by rw [← hst, ← hwr]; rfl
      obtain ⟨_, _, fln⟩ := KB.due_fold h6 h12 t st [] tok.lt tok.le List.nodup_nil
      have el : ([] : KB.LP).length = 0 := rfl
      rw [ed] at er fln
      refine ⟨e3, _, rfl, ra, KB.dueRow n l, rfl, by rw [upd_ne rta]; exact er, KB.nd_dueRow h6 h0 hw h12, by rw [sizeLine_eq]; omega, fun H' p L sH' hc hL => q H' p L (fun u o eu => ?_) ?_ hL⟩
      · have hut : u ≠ ta := ne_of_none (S0 _ _ eu) (by
          cases z : (upd H ra (HO.dK [])) ta with
          | none => rfl
          | some o => exact absurd (s1 _ _ z) (by intro z2; rw [nta] at z; cases z))
        refine sH' _ _ ?_
        rw [upd_ne hut]
        exact s3 _ _ (s2 _ _ (s1 _ _ (S0 _ _ eu))) hut (ne_of_none eu nra)
      · rw [← KB.due_poly h6 h0 hw h12]
        exact hc
end
end KP

set_option Elab.async false
set_option linter.all false
set_option maxRecDepth 100000
set_option maxHeartbeats 4000000
namespace KP
open PySem PySem.Spec L2 KN
open PyProof.Rows hiding St
theorem scl_well : FnScope ["_law_script", "_law_great", "_law_mark", "_law_place", "_law_cell"] ["_law_script"] (defScope (topS 29)) := ⟨rfl, rfl, rfl, by decide +kernel, rfl, by decide +kernel, by decide +kernel⟩
theorem scl_draw : FnScope ["_law_well_here", "_law_limit", "_law_found", "_law_mixed"] ["_law_well_here", "_law_limit"] (defScope (topS 30)) := ⟨rfl, rfl, rfl, by decide +kernel, rfl, by decide +kernel, by decide +kernel⟩
theorem scl_size : FnScope ["_law_well_here"] ["_law_well_here"] (defScope (topS 40)) := ⟨rfl, rfl, rfl, by decide +kernel, rfl, by decide +kernel, by decide +kernel⟩
/-- the well of numbers: its list at a, the great ones' at g, at most c drawn -/
def Well (H : Hp) (a g : Addr) (c : Nat) : Prop := ∃ (b m : Int) (k : Nat) (gs : List Int), H a = some (.lst [.ref g, .int b, .int m, .int k]) ∧ H g = some (.lst (vi gs)) ∧ a ≠ g ∧ 0 ≤ m ∧ m ≤ 2305843009213693951 ∧ k ≤ c ∧ gs.length ≤ 63
/-- all but the well stays -/
def SmW (a g : Addr) (H H' : Hp) : Prop := ∀ x o, H x = some o → x ≠ a → x ≠ g → H' x = some o
theorem SmW.of {a g : Addr} {H H' : Hp} (s : Same H H') : SmW a g H H' := fun x o e _ _ => s x o e
theorem SmW.trans {a g : Addr} {H H1 H2 : Hp} (s : SmW a g H H1) (t : SmW a g H1 H2) : SmW a g H H2 := fun x o e h1 h2 => t x o (s x o e h1 h2) h1 h2
theorem Well.keep {H H' : Hp} {a g : Addr} {c : Nat} (h : Well H a g c) (s : Same H H') : Well H' a g c := by
  obtain ⟨b, m, k, gs, h1, h2, h3⟩ := h
  exact ⟨b, m, k, gs, s _ _ h1, s _ _ h2, h3⟩
theorem Well.le {H : Hp} {a g : Addr} {c d : Nat} (h : Well H a g c) (s : c ≤ d) : Well H a g d := by
  obtain ⟨b, m, k, gs, h1, h2, h3, h4, h5, h6, h7⟩ := h
  exact ⟨b, m, k, gs, h1, h2, h3, h4, h5, by omega, h7⟩
theorem vi_dropLast (l : List Int) : (vi l).dropLast = vi l.dropLast := by
  show (List.map _ l).dropLast = List.map _ l.dropLast
  rw [List.map_dropLast]
theorem nx_as' {D : Ends} {σ : L2.St} (H8 : Hp) (h : D.nx σ H8) : D.nx σ H8 := h
section
variable {P : Program} {w : World} {K : PySem.W.Frag} {mg : Str → Option Value} {base : Heap}
def spWell (K : PySem.W.Frag) : Sp := fun vs H Q _ => ∃ (a : Addr) (ns : List Int), vs = [.ref a] ∧ SqL K H a (vi ns) ∧ ns.length ≤ 63 ∧ ∀ H' p g, Same H H' → H p = none → H g = none → Well H' p g 0 → Q (.ref p) H'
theorem okl_well {f : Addr} {fd : FuncData} (F : Fun K "_law_well" "_law_well" (topS 29) f fd) (T : Bt mg) : FnOk P w K mg base CX0 1 f fd ["_law_script"] (spWell K) := by
  refine F.ok scl_well (fun vs H Q E h => ?_) (fun cdv A outer s H vs Q E hr h => ?_)
  · obtain ⟨a, l, rfl, _⟩ := h
    rfl
  · obtain ⟨a, ns, rfl, ha, h63, q⟩ := h
    have nd := scl_well.nd
    refine ⟨_, pss_cons (ps_par (i := 1) (j := 2) rfl nd rfl rfl (by decide) rfl rfl (pa_cons (pe_lst pa_nil) (pa_cons pe_int pa_nil)) (by rfl))
      (pss_cons (ps_for PassesOwn.never rfl (pi_range1 (by rfl) T.range (pa_cons (pe_callB call_len_seq (by rfl) T.len (by decide +kernel) (pa_cons (pv 0) pa_nil)) pa_nil)) (pg_name (i := 3) nd rfl (.inl rfl))
        (pss_cons (ps_set (i := 4) nd rfl (.inl rfl) (pe_ix ix_list (pv 0) (pv 3) (fun _ _ => rfl)))
        (pss_one (ps_if (pt_cmpR op_ge (pv 4) (pe_op op_pow pe_int pe_int) (nomark _))
          (pss_one (ps_expr (pe_bm PySem.F.plainAttrs_list PySem.F.slot_list_insert PySem.F.type_list_insert mt_insert (pv 1) (pa_cons pe_int (pa_cons (pe_op op_sub (pv 4) (pe_op op_pow pe_int pe_int)) pa_nil)))))
          (pss_one (ps_set (i := 2) nd rfl (.inl rfl) (pe_op op_add (pe_op op_mod (pe_callTy call_int1 (by rfl) T.int (by decide +kernel) (pa_cons
            (pe_op op_pow (pe_op op_add (pv 2) (pe_op op_mul (pe_op op_add (pv 3) pe_int) (pe_op op_mod (pe_callTy call_int1 (by rfl) T.int (by decide +kernel) (pa_cons (pv 4) pa_nil)) pe_int))) pe_int) pa_nil)) pe_int) pe_int)))))))
      (pss_one (ps_ret (pe_lst (pa_cons (pv 1) (pa_cons pe_int (pa_cons (pv 2) (pa_cons pe_int pa_nil)))))))), ?_⟩
    refine ⟨Nat.zero_le _, fun g ng => ?_⟩
    refine ⟨_, _, rfl, ?_⟩
    have s0 := same_new (o := .lst []) ng
    refine ⟨_, rfl, a, vi ns, rfl, .inl (s0.seq ha), (ns.length : Nat), by rw [List.length_map], by omega, by omega, ?_⟩
    refine for_range (lo := 0) (n := ns.length) (fun i σ H1 => ∃ (m : Int) (gs : List Int) (y3 y4 : Option V), σ = [some (.ref a), some (.ref g), some (.int m), y3, y4] ∧ Same H H1 ∧ H1 g = some (.lst (vi gs)) ∧ 0 ≤ m ∧ m ≤ 2305843009213693951 ∧ gs.length ≤ i)
      ⟨30011, [], none, none, rfl, s0, upd_same, by decide, by decide, Nat.le_refl _⟩ ?_ ?_
    · rintro i σ H1 hi ⟨m, gs, y3, y4, rfl, s1, e1, m0, m1, lg⟩
      rw [show (0 : Int) + (i : Nat) = (i : Int) from Int.zero_add _]
      obtain ⟨c, hc⟩ : ∃ c, ns[i]? = some c := ⟨ns[i], List.getElem?_eq_getElem hi⟩
      have hx : (vi ns)[i]? = some (.int c) := by rw [List.getElem?_map, hc]; rfl
      refine ⟨_, rfl, _, rfl, a, _, _, _, rfl, rfl, s1.seq ha, atI_nat hx, ?_⟩
      refine ⟨_, rfl, _, _, rfl, rfl, ⟨by decide, by decide, by decide⟩, _, _, rfl, rfl, _, rfl, ite2 (fun e => ?_) fun e => ?_⟩
      · refine ⟨_, rfl, .inl ⟨rfl, _, SqL.of e1⟩, _, rfl, _, _, rfl, rfl, ⟨by decide, by decide, by decide⟩, _, _, rfl, rfl, g, _, 0, _, rfl, rfl, e1, by rw [List.length_map, sizeLine_eq]; omega, by decide, by decide, ?_⟩
        refine ⟨m, (c - 10 ^ 18) :: gs, _, _, rfl, put_same s1 ng, ?_, m0, m1, by rw [List.length_cons]; omega⟩
        rw [upd_same]
        rfl
      · have hc1 := Int.emod_nonneg c (show (1000000000061 : Int) ≠ 0 by decide)
        have hc2 := Int.emod_lt_of_pos c (show (0 : Int) < 1000000000061 by decide)
        have hm1 : 0 ≤ ((i : Int) + 3) * (c % 1000000000061) := Int.mul_nonneg (by omega) hc1
        have hm2 : ((i : Int) + 3) * (c % 1000000000061) ≤ 66 * 1000000000061 := Int.mul_le_mul (by omega) (by omega) hc1 (by decide)
        have hb : (m + ((i : Int) + 3) * (c % 1000000000061)).natAbs < 2 ^ 64 := by
          generalize ((i : Int) + 3) * (c % 1000000000061) = z at *
          omega
        refine ⟨_, rfl, _, rfl, _, _, rfl, rfl, _, rfl, .inl ⟨_, rfl, _, _, rfl, rfl, by show (0 : Int) < 1000000000061; decide, _, _, rfl, rfl, .inl ⟨by omega, by omega⟩, _, _, rfl, rfl, ?_⟩⟩
        refine ⟨_, _, rfl, rfl, ⟨by decide, by decide, hb⟩, .inl ⟨_, rfl, _, _, rfl, rfl, by show (0 : Int) < 2305843009213693951; decide, _, _, rfl, rfl, ?_⟩⟩
        have r1 := Int.emod_nonneg ((m + ((i : Int) + 3) * (c % 1000000000061)) ^ (3 : Int).toNat) (show (2305843009213693951 : Int) ≠ 0 by decide)
        have r2 := Int.emod_lt_of_pos ((m + ((i : Int) + 3) * (c % 1000000000061)) ^ (3 : Int).toNat) (show (0 : Int) < 2305843009213693951 by decide)
        exact ⟨_, gs, _, _, rfl, s1, e1, by show 0 ≤ _ % (2305843009213693951 : Int) + 1; exact Int.add_nonneg r1 (by decide), r2, by omega⟩
    · rintro σ H1 ⟨m, gs, y3, y4, rfl, s1, e1, m0, m1, lg⟩
      refine ⟨_, rfl, _, rfl, by show 4 ≤ sizeLine; decide, fun p np => ?_⟩
      refine q _ p g (new_same s1 np) (s1.free np) ng ⟨0, m, 0, gs, upd_same, ?_, (ne_of_none e1 np).symm, m0, m1, Nat.le_refl _, by omega⟩
      rw [upd_ne (ne_of_none e1 np)]
      exact e1
def spDraw : Sp := fun vs H Q _ => ∃ (a g : Addr) (lim : Int) (c : Nat), vs = [.ref a, .int lim] ∧ Well H a g c ∧ c < 1048576 ∧ 0 < lim ∧ lim < 1073741824 ∧ ∀ H' r, SmW a g H H' → Well H' a g (c + 1) → 0 ≤ r → r < lim → Q (.int r) H'
theorem okl_draw {f : Addr} {fd : FuncData} (F : Fun K "_law_draw" "_law_draw" (topS 30) f fd) (T : Bt mg) : FnOk P w K mg base CX0 1 f fd ["_law_well_here", "_law_limit"] spDraw := by
  refine F.ok scl_draw (fun vs H Q E h => ?_) (fun cdv A outer s H vs Q E hr h => ?_)
  · obtain ⟨a, g, lim, c, rfl, _⟩ := h
    rfl
  · obtain ⟨a, g, lim, c, rfl, hW, hc, l0, l1, q⟩ := h
    have nd := scl_draw.nd
    have hu := hr.units
    refine ⟨_, pss_cons (ps_if (pw_and (pt_cmpR op_eq (pe_ix ix_list (pv 0) pe_int (fun _ _ => rfl)) pe_int (nomark _)) (pw_and1 (pt_cmpR (op_neD hu) (pe_ix ix_list (pv 0) pe_int (fun _ _ => rfl)) (pe_lst pa_nil) (nomark _)))).pt
        (pss_one (ps_asg (pe_bm0 PySem.F.plainAttrs_list PySem.F.slot_list_pop PySem.F.type_list_pop mt_pop (pe_ix ix_list (pv 0) pe_int (fun _ _ => rfl))) (pg_sub (pv 0) pe_int set_list))) pss_nil)
      (pss_cons (ps_if (pt_cmpR op_gt (pe_ix ix_list (pv 0) pe_int (fun _ _ => rfl)) pe_int (nomark _))
        (pss_cons (ps_set (i := 2) nd rfl (.inl rfl) (pe_op op_mod (pe_callTy call_int1 (by rfl) T.int (by decide +kernel) (pa_cons (pe_ix ix_list (pv 0) pe_int (fun _ _ => rfl)) pa_nil)) (pv 1)))
        (pss_cons (ps_asg (pe_op op_fdiv (pe_ix ix_list (pv 0) pe_int (fun _ _ => rfl)) (pv 1)) (pg_sub (pv 0) pe_int set_list))
        (pss_one (ps_ret (pv 2))))) pss_nil)
      (pss_cons (ps_asg (pe_op op_add (pe_ix ix_list (pv 0) pe_int (fun _ _ => rfl)) pe_int) (pg_sub (pv 0) pe_int set_list))
      (pss_cons (ps_set (i := 3) nd rfl (.inl rfl) (pe_op op_mod (pe_callTy call_int1 (by rfl) T.int (by decide +kernel) (pa_cons (pe_op op_pow (pe_op op_add (pe_op op_add (pe_ix ix_list (pv 0) pe_int (fun _ _ => rfl)) (pe_op op_mul (pe_op op_mul pe_int (pe_ix ix_list (pv 0) pe_int (fun _ _ => rfl))) (pe_ix ix_list (pv 0) pe_int (fun _ _ => rfl)))) (pe_ix ix_list (pv 0) pe_int (fun _ _ => rfl))) pe_int) pa_nil)) pe_int))
      (pss_one (ps_ret (pe_op op_mod (pe_op op_fdiv (pe_op op_mod (pe_callTy call_int1 (by rfl) T.int (by decide +kernel) (pa_cons (pe_op op_mulW (pv 3) (pe_op op_add (pv 3) pe_int)) pa_nil)) pe_int) pe_int) (pv 1))))))), ?_⟩
    obtain ⟨b, m, k, gs, e1, e2, ag, m0, m1, kc, lg⟩ := hW
    refine ⟨_, rfl, a, _, 1, .int b, rfl, rfl, SqL.of e1, rfl, rfl, _, rfl, ite2 (fun e => ?a1) fun e => ?a2⟩
    case' a1 =>
      refine ⟨_, rfl, a, _, 0, .ref g, rfl, rfl, SqL.of e1, rfl, Nat.zero_le _, fun t nt => ?_⟩
      have st := same_new (o := .lst []) nt
      have sW : SmW a g H (upd H t (.lst [])) := SmW.of st
      have E1 := st _ _ e1
      have E2 := st _ _ e2
      refine neNil_l (st _ _ e2) upd_same ⟨_, rfl, ?_⟩
      generalize upd H t (.lst []) = H1 at *
      cases hgs : gs
    case' a1.nil =>
      subst hgs
      refine iteF ?_
      have hW1 : Well H1 a g c := ⟨b, m, k, [], E1, E2, ag, m0, m1, kc, lg⟩
    case' a1.cons c0 gr =>
      subst hgs
      obtain ⟨z, hz⟩ : ∃ z, (c0 :: gr)[(c0 :: gr).length - 1]? = some z := ⟨(c0 :: gr)[(c0 :: gr).length - 1]'(by rw [List.length_cons]; omega), List.getElem?_eq_getElem _⟩
      have hz' : (vi (c0 :: gr))[(vi (c0 :: gr)).length - 1]? = some (.int z) := by rw [List.length_map, List.getElem?_map, hz]; rfl
      refine iteT ⟨_, rfl, a, _, 0, .ref g, rfl, rfl, SqL.of E1, rfl, .inl ⟨rfl, _, SqL.of E2⟩, g, vi (c0 :: gr), .int z, rfl, rfl, E2, hz', ?_⟩
      refine ⟨_, rfl, a, _, 1, 1, rfl, rfl, by rw [upd_ne ag]; exact E1, rfl, ?_⟩
      have hW1 : Well (upd (upd H1 g (.lst (vi (c0 :: gr)).dropLast)) a (.lst [.ref g, .int z, .int m, .int k])) a g c := ⟨z, m, k, (c0 :: gr).dropLast, upd_same, by rw [upd_ne ag.symm, upd_same, vi_dropLast], ag, m0, m1, kc, by rw [List.length_dropLast]; omega⟩
      have sW : SmW a g H (upd (upd H1 g (.lst (vi (c0 :: gr)).dropLast)) a (.lst [.ref g, .int z, .int m, .int k])) := fun x o ex h1 h2 => by rw [upd_ne h1, upd_ne h2]; exact sW x o ex h1 h2
      refine nx_as' (upd (upd H1 g (.lst (vi (c0 :: gr)).dropLast)) a (.lst [.ref g, .int z, .int m, .int k])) ?_
      generalize upd (upd H1 g (.lst (vi (c0 :: gr)).dropLast)) a (.lst [.ref g, .int z, .int m, .int k]) = H1 at *
    case' a2 =>
      refine iteF ?_
      have hW1 : Well H a g c := ⟨b, m, k, gs, e1, e2, ag, m0, m1, kc, lg⟩
      have sW : SmW a g H H := SmW.of fun x o e => e
    all_goals
      clear e1 e2 ag m0 m1 kc lg
      obtain ⟨b, m, k, gs, e1, e2, ag, m0, m1, kc, lg⟩ := hW1
      refine ⟨_, rfl, a, _, 1, .int b, rfl, rfl, SqL.of e1, rfl, _, _, rfl, rfl, _, rfl, ite2 (fun e => ?_) fun e => ?_⟩
      · refine ⟨_, rfl, a, _, 1, .int b, rfl, rfl, SqL.of e1, rfl, .inl ⟨_, rfl, _, rfl, _, _, rfl, rfl, l0, ?_⟩⟩
        refine ⟨_, rfl, a, _, 1, .int b, rfl, rfl, SqL.of e1, rfl, _, rfl, _, _, rfl, rfl, ⟨l0, l1⟩, _, rfl, a, _, 1, 1, rfl, rfl, e1, rfl, ?_⟩
        refine ⟨_, rfl, ?_⟩
        exact q _ _ (fun x o ex h1 h2 => by rw [upd_ne h1]; exact sW x o ex h1 h2) ⟨b / lim, m, k, gs, upd_same, by rw [upd_ne ag.symm]; exact e2, ag, m0, m1, by omega, lg⟩ (Int.emod_nonneg _ (by omega)) (Int.emod_lt_of_pos _ l0)
      · refine ⟨_, rfl, a, _, 3, .int k, rfl, rfl, SqL.of e1, rfl, _, _, rfl, rfl, _, rfl, a, _, 3, 3, rfl, rfl, e1, rfl, ?_⟩
        have hb : (m + 104729 * ((k : Int) + 1) * ((k : Int) + 1) + ((k : Int) + 1)).natAbs < 2 ^ 64 := by
          have h1 : ((k : Int) + 1) * ((k : Int) + 1) ≤ 1048576 * 1048576 := Int.mul_le_mul (by omega) (by omega) (by omega) (by decide)
          have h2 : 0 ≤ ((k : Int) + 1) * ((k : Int) + 1) := Int.mul_nonneg (by omega) (by omega)
          rw [Int.mul_assoc]
          generalize ((k : Int) + 1) * ((k : Int) + 1) = z at *
          omega
        refine ⟨_, rfl, a, _, 2, .int m, rfl, rfl, SqL.of upd_same, rfl, _, rfl, a, _, 3, .int ((k : Int) + 1), rfl, rfl, SqL.of upd_same, rfl, _, _, rfl, rfl, .inl ⟨by decide, by decide⟩, ?_⟩
        refine ⟨_, rfl, a, _, 3, .int ((k : Int) + 1), rfl, rfl, SqL.of upd_same, rfl, _, _, rfl, rfl, .inr ⟨by omega, by omega⟩, _, _, rfl, rfl, ?_⟩
        refine ⟨_, rfl, a, _, 3, .int ((k : Int) + 1), rfl, rfl, SqL.of upd_same, rfl, _, _, rfl, rfl, _, _, rfl, rfl, ⟨by decide, by decide, hb⟩, .inl ⟨_, rfl, _, _, rfl, rfl, by show (0 : Int) < 162259276829213363391578010288127; decide, ?_⟩⟩
        have r1 := Int.emod_nonneg ((m + 104729 * ((k : Int) + 1) * ((k : Int) + 1) + ((k : Int) + 1)) ^ (2 : Int).toNat) (show (162259276829213363391578010288127 : Int) ≠ 0 by decide)
        have r2 := Int.emod_lt_of_pos ((m + 104729 * ((k : Int) + 1) * ((k : Int) + 1) + ((k : Int) + 1)) ^ (2 : Int).toNat) (show (0 : Int) < 162259276829213363391578010288127 by decide)
        have w1 : (((m + 104729 * ((k : Int) + 1) * ((k : Int) + 1) + ((k : Int) + 1)) ^ (2 : Int).toNat) % 162259276829213363391578010288127).natAbs < 2 ^ 108 := by
          generalize ((m + 104729 * ((k : Int) + 1) * ((k : Int) + 1) + ((k : Int) + 1)) ^ (2 : Int).toNat) % 162259276829213363391578010288127 = z at *
          omega
        have w2 : (((m + 104729 * ((k : Int) + 1) * ((k : Int) + 1) + ((k : Int) + 1)) ^ (2 : Int).toNat) % 162259276829213363391578010288127 + 59).natAbs < 2 ^ 108 := by
          generalize ((m + 104729 * ((k : Int) + 1) * ((k : Int) + 1) + ((k : Int) + 1)) ^ (2 : Int).toNat) % 162259276829213363391578010288127 = z at *
          omega
        refine ⟨_, rfl, _, rfl, _, _, rfl, rfl, _, _, rfl, rfl, wide_mul w1 w2 (by decide) (by decide) (by decide), .inl ⟨_, rfl, _, _, rfl, rfl, by show (0 : Int) < 170141183460469231731687303715884105727; decide, _, _, rfl, rfl, ⟨by decide, by decide⟩, _, rfl, _, _, rfl, rfl, l0, ?_⟩⟩
        exact q _ _ (fun x o ex h1 h2 => by rw [upd_ne h1]; exact sW x o ex h1 h2) ⟨b, m, k + 1, gs, upd_same, by rw [upd_ne ag.symm]; exact e2, ag, m0, m1, by omega, lg⟩ (Int.emod_nonneg _ (by omega)) (Int.emod_lt_of_pos _ l0)
def splSize : Sp := fun vs H Q _ => ∃ (a g : Addr) (c : Nat), vs = [.ref a] ∧ Well H a g c ∧ c < 1048576 ∧ ∀ H' (n : Nat), SmW a g H H' → Well H' a g (c + 1) → 0 < n → n < 6 → Q (.int n) H'
theorem sizes_at (k : Nat) (h : k < 8) : ∃ n : Nat, 0 < n ∧ n < 6 ∧ ([V.int 1, V.int 2, V.int 3, V.int 4, V.int 5, V.int 3, V.int 4, V.int 3] : List V)[k]? = some (.int (n : Nat)) := by
  match k, h with
  | 0, _ => exact ⟨1, by decide, by decide, rfl⟩
  | 1, _ => exact ⟨2, by decide, by decide, rfl⟩
  | 2, _ => exact ⟨3, by decide, by decide, rfl⟩
  | 3, _ => exact ⟨4, by decide, by decide, rfl⟩
  | 4, _ => exact ⟨5, by decide, by decide, rfl⟩
  | 5, _ => exact ⟨3, by decide, by decide, rfl⟩
  | 6, _ => exact ⟨4, by decide, by decide, rfl⟩
  | 7, _ => exact ⟨3, by decide, by decide, rfl⟩
  | k + 8, h => omega
theorem okl_size {f : Addr} {fd : FuncData} (F : Fun K "_law_size" "_law_size" (topS 40) f fd) (cD : Cal P w K mg base "_law_draw" 1 ["_law_well_here", "_law_limit"] spDraw) : FnOk P w K mg base CX0 2 f fd ["_law_well_here"] splSize := by
  refine F.ok scl_size (fun vs H Q E h => ?_) (fun cdv A outer s H vs Q E hr h => ?_)
  · obtain ⟨a, g, c, rfl, _⟩ := h
    rfl
  · obtain ⟨a, g, c, rfl, hW, hc, q⟩ := h
    refine ⟨_, pss_one (ps_ret (pe_ix ix_list (pe_lst (pa_cons pe_int (pa_cons pe_int (pa_cons pe_int (pa_cons pe_int (pa_cons pe_int (pa_cons pe_int (pa_cons pe_int (pa_cons pe_int pa_nil))))))))) (pe_cal cD hr (by rfl) (pa_cons (pv 0) (pa_cons pe_int pa_nil))) (fun _ _ => rfl))), ?_⟩
    refine ⟨by show 8 ≤ sizeLine; decide, fun l nl => ?_⟩
    have sl := same_new (o := .lst [.int 1, .int 2, .int 3, .int 4, .int 5, .int 3, .int 4, .int 3]) nl
    have la : l ≠ a := by
      obtain ⟨_, _, _, _, h1, _⟩ := hW
      exact (ne_of_none h1 nl).symm
    have lg : l ≠ g := by
      obtain ⟨_, _, _, _, _, h1, _⟩ := hW
      exact (ne_of_none h1 nl).symm
    refine ⟨_, rfl, a, g, 8, c, rfl, hW.keep sl, hc, by decide, by decide, fun H' r sW hW' r0 r1 => ?_⟩
    obtain ⟨k, rfl⟩ : ∃ k : Nat, r = k := ⟨r.toNat, by omega⟩
    obtain ⟨n, n0, n6, hn⟩ := sizes_at k (by omega)
    exact ⟨l, _, k, .int n, rfl, rfl, SqL.of (sW _ _ upd_same la lg), atI_nat hn, q H' n ((SmW.of sl).trans sW) hW' n0 n6⟩
end
end KP

set_option Elab.async false
set_option linter.all false
set_option maxRecDepth 100000
set_option maxHeartbeats 4000000
namespace KP
open PySem PySem.Spec L2 KN
open PyProof.Rows hiding St
open RT (ItvT pi_revA iRevA)
theorem scl_cross : FnScope ["_law_well_here", "_law_size_here", "_law_most", "_law_many", "_law_kind", "_law_row", "_law_half", "_law_k", "_law_number"] ["_law_well_here", "_law_size_here", "_law_most"] (defScope (topS 41)) := ⟨rfl, rfl, rfl, by decide +kernel, rfl, by decide +kernel, by decide +kernel⟩
theorem walk_revL {K : PySem.W.Frag} {a : Addr} {xs : List V} : Walk (Itv K a xs.length) xs.length (fun H => SqL K H a xs) (fun i H x H' => H' = H ∧ xs[xs.length - 1 - i]? = some x) :=
  ⟨fun i H hi h => ⟨hi, xs, xs[xs.length - 1 - i], h, List.getElem?_eq_getElem (by omega)⟩, fun _ _ => Nat.le_refl _, fun i H x H' hi h y => ⟨y.1, y.2 xs h⟩⟩
theorem word_take {n k : Nat} {l : List Int} (h : KB.Word n l) : KB.Word n (l.take k) := fun d hd => h d (List.mem_of_mem_take hd)
theorem word_rep {n k : Nat} {l : List Int} (h : KB.Word n l) : KB.Word n (List.replicate k l).flatten := fun d hd => by
  obtain ⟨m, h1, h2⟩ := List.mem_flatten.mp hd
  rw [(List.mem_replicate.mp h1).2] at h2
  exact h d h2
theorem vi_rep (k : Nat) (l : List Int) : (List.replicate k (vi l)).flatten = vi (List.replicate k l).flatten := by
  show _ = List.map V.int _
  rw [List.map_flatten, List.map_replicate]
theorem len_rep (k : Nat) (l : List Int) (h : l.length ≤ 1) : (List.replicate k l).flatten.length ≤ k := by
  induction k with
  | zero => exact Nat.le_refl _
  | succ k ih =>
    rw [List.replicate_succ, List.flatten_cons, List.length_append]
    omega
theorem word_abs {n : Nat} {l : List Int} (h : KB.Word n l) : KB.Word n (l.map fun c => if c < 0 then -c else c) := fun d hd => by
  obtain ⟨c, hc, rfl⟩ := List.mem_map.mp hd
  obtain ⟨h1, h2⟩ := h c hc
  unfold KB.Ok
  split <;> omega
/-- one drawn crossing -/
theorem ok_drawn {n : Nat} {x y : Int} (hn : 2 ≤ n) (x0 : 0 ≤ x) (x1 : x < (n : Int) - 1) (y0 : 0 ≤ y) (y1 : y < 2) : KB.Ok n ((1 + x) * (1 - 2 * y)) := by
  have h : y = 0 ∨ y = 1 := by omega
  unfold KB.Ok
  rcases h with rfl | rfl
  · rw [show (1 + x) * (1 - 2 * 0) = 1 + x by omega]
    omega
  · rw [show (1 + x) * (1 - 2 * 1) = -(1 + x) by omega]
    omega
section
variable {P : Program} {w : World} {K : PySem.W.Frag} {mg : Str → Option Value} {base : Heap}
def splCross : Sp := fun vs H Q _ => ∃ (a g : Addr) (n most c : Nat), vs = [.ref a, .int n, .int most] ∧ Well H a g c ∧ c < 1000000 ∧ 0 < n ∧ n < 6 ∧ most ≤ 12 ∧
  ∀ H' p l, SmW a g H H' → Well H' a g (c + 40) → H' p = some (.tup (vi l)) → KB.Word n l → l.length ≤ most → Q (.ref p) H'
theorem okl_cross {f : Addr} {fd : FuncData} (F : Fun K "_law_crossings" "_law_crossings" (topS 41) f fd) (T : Bt mg) (cD : Cal P w K mg base "_law_draw" 1 ["_law_well_here", "_law_limit"] spDraw) : FnOk P w K mg base CX0 2 f fd ["_law_well_here", "_law_size_here", "_law_most"] splCross := by
  refine F.ok scl_cross (fun vs H Q E h => ?_) (fun cdv A outer s H vs Q E hr h => ?_)
  · obtain ⟨a, g, n, most, c, rfl, _⟩ := h
    rfl
  · obtain ⟨a, g, n, most, c, rfl, hW, hc, h0, h6, hm, q⟩ := h
    have nd := scl_cross.nd
    refine ⟨_, pss_cons (ps_set (i := 3) nd rfl (.inl rfl) (pe_callB (call_min2 rfl) (by rfl) T.min (by decide +kernel) (pa_cons (pv 2) (pa_cons
        (pe_ix ix_list (pe_lst (pa_cons (pe_cal cD hr (by rfl) (pa_cons (pv 0) (pa_cons pe_int pa_nil))) (pa_cons (pe_op op_add pe_int (pe_cal cD hr (by rfl) (pa_cons (pv 0) (pa_cons pe_int pa_nil)))) (pa_cons (pe_cal cD hr (by rfl) (pa_cons (pv 0) (pa_cons (pe_op op_add (pv 2) pe_int) pa_nil))) (pa_cons (pv 2) pa_nil)))))
          (pe_cal cD hr (by rfl) (pa_cons (pv 0) (pa_cons pe_int pa_nil))) (fun _ _ => rfl)) pa_nil))))
      (pss_cons (ps_if (pt_cmpR op_eq (pv 1) pe_int (nomark _)) (pss_one (ps_ret (pe_tup pa_nil))) pss_nil)
      (pss_cons (ps_set (i := 4) nd rfl (.inl rfl) (pe_cal cD hr (by rfl) (pa_cons (pv 0) (pa_cons pe_int pa_nil))))
      (pss_cons (ps_set (i := 5) nd rfl (.inr rfl) (pe_lc (own := [("_law_k", 7)]) (g := gName 7) (tt := tYes) (by rfl) nd (pi_range1 (by rfl) T.range (pa_cons (pv 3) pa_nil)) (blkOk_by (own := [("_law_k", 7)]) (N := ["_law_well_here", "_law_size_here", "_law_most", "_law_many", "_law_kind", "_law_row", "_law_half", "_law_k", "_law_number"]) (sc := defScope (topS 41)) (by decide +kernel))
          (fun _ _ _ _ _ => pg_name (i := 7) nd rfl (Or.inl rfl)) (fun _ _ _ _ _ => pts_nil)
          (fun _ _ _ _ _ => pe_op op_mul (pe_op op_add pe_int (pe_cal cD hr (by rfl) (pa_cons (pv 0) (pa_cons (pe_op op_sub (pv 1) pe_int) pa_nil)))) (pe_op op_sub pe_int (pe_op op_mul pe_int (pe_cal cD hr (by rfl) (pa_cons (pv 0) (pa_cons pe_int pa_nil))))))))
      (pss_cons (ps_if (pt_cmpR op_eq (pv 4) pe_int (nomark _)) (pss_one (ps_ret (pe_callTy call_tuple_of (by rfl) T.tuple (by decide +kernel) (pa_cons (pe_op op_rep (pe_slice sl_list (pv 5) po_none (po_some pe_int)) (pv 3)) pa_nil)))) pss_nil)
      (pss_cons (ps_if (pt_cmpR op_eq (pv 4) pe_int (nomark _)) (pss_one (ps_ret (pe_callTy call_tuple_of (by rfl) T.tuple (by decide +kernel) (pa_cons
          (pe_lc (own := [("_law_number", 8)]) (g := gName 8) (tt := tYes) (by rfl) nd (pi_list (pv 5)) (blkOk_by (own := [("_law_number", 8)]) (N := ["_law_well_here", "_law_size_here", "_law_most", "_law_many", "_law_kind", "_law_row", "_law_half", "_law_k", "_law_number"]) (sc := defScope (topS 41)) (by decide +kernel))
          (fun _ _ _ _ _ => pg_name (i := 8) nd rfl (Or.inl rfl)) (fun _ _ _ _ _ => pts_nil)
          (fun _ _ _ _ _ => pe_callB call_abs (by rfl) T.abs (by decide +kernel) (pa_cons (pv 8) pa_nil))) pa_nil)))) pss_nil)
      (pss_cons (ps_if (pt_cmpR op_eq (pv 4) pe_int (nomark _))
        (pss_cons (ps_set (i := 6) nd rfl (.inl rfl) (pe_slice sl_list (pv 5) po_none (po_some (pe_op op_fdiv (pv 3) pe_int))))
        (pss_one (ps_ret (pe_callTy call_tuple_of (by rfl) T.tuple (by decide +kernel) (pa_cons (pe_op op_cat (pv 6)
          (pe_lc (own := [("_law_number", 8)]) (g := gName 8) (tt := tYes) (by rfl) nd (pi_revA (by rfl) T.reversed (pv 6)) (blkOk_by (own := [("_law_number", 8)]) (N := ["_law_well_here", "_law_size_here", "_law_most", "_law_many", "_law_kind", "_law_row", "_law_half", "_law_k", "_law_number"]) (sc := defScope (topS 41)) (by decide +kernel))
          (fun _ _ _ _ _ => pg_name (i := 8) nd rfl (Or.inl rfl)) (fun _ _ _ _ _ => pts_nil)
          (fun _ _ _ _ _ => pe_un un_neg (pv 8)))) pa_nil))))) pss_nil)
      (pss_cons (ps_if (pt_cmpR op_eq (pv 4) pe_int (nomark _)) (pss_one (ps_ret (pe_callTy call_tuple_of (by rfl) T.tuple (by decide +kernel) (pa_cons
          (pe_lc (own := [("_law_k", 7)]) (g := gName 7) (tt := tYes) (by rfl) nd (pi_range1 (by rfl) T.range (pa_cons (pv 3) pa_nil)) (blkOk_by (own := [("_law_k", 7)]) (N := ["_law_well_here", "_law_size_here", "_law_most", "_law_many", "_law_kind", "_law_row", "_law_half", "_law_k", "_law_number"]) (sc := defScope (topS 41)) (by decide +kernel))
          (fun _ _ _ _ _ => pg_name (i := 7) nd rfl (Or.inl rfl)) (fun _ _ _ _ _ => pts_nil)
          (fun _ _ _ _ _ => pe_op op_mul (pe_op op_add pe_int (pe_op op_mod (pe_callTy call_int1 (by rfl) T.int (by decide +kernel) (pa_cons (pv 7) pa_nil)) (pe_op op_sub (pv 1) pe_int)))
            (pe_op op_sub pe_int (pe_op op_mul pe_int (pe_callTy call_int1 (by rfl) T.int (by decide +kernel) (pa_cons (pe_cmpR op_lt (pe_ix (r := rIxL K) ix_list (pv 5) pe_int (fun _ _ => rfl)) pe_int (nomark _)) pa_nil)))))) pa_nil)))) pss_nil)
      (pss_one (ps_ret (pe_callTy call_tuple_of (by rfl) T.tuple (by decide +kernel) (pa_cons (pv 5) pa_nil))))))))))), ?_⟩
    have wa : ∀ {H' : Hp} {p : Addr} {k : Nat}, Well H' a g k → H' p = none → p ≠ a ∧ p ≠ g := fun hW np => by
      obtain ⟨_, _, _, _, h1, h2, _⟩ := hW
      exact ⟨(ne_of_none h1 np).symm, (ne_of_none h2 np).symm⟩
    -- many
    refine ⟨_, rfl, _, rfl, a, g, 5, c, rfl, hW, by omega, by decide, by decide, fun H1 r1 s1 W1 r10 r11 => ?_⟩
    refine ⟨_, rfl, a, g, 5, c + 1, rfl, W1, by omega, by decide, by decide, fun H2 r2 s2 W2 r20 r21 => ?_⟩
    refine ⟨_, _, rfl, rfl, _, rfl, _, rfl, _, _, rfl, rfl, a, g, (most : Int) + 1, c + 1 + 1, rfl, W2, by omega, by omega, by omega, fun H3 r3 s3 W3 r30 r31 => ?_⟩
    refine ⟨_, rfl, by show 4 ≤ sizeLine; decide, fun t nt => ?_⟩
    have st := same_new (o := .lst [.int r1, .int (3 + r2), .int r3, .int (most : Nat)]) nt
    obtain ⟨ta, tg⟩ := wa W3 nt
    refine ⟨_, rfl, a, g, 4, c + 1 + 1 + 1, rfl, W3.keep st, by omega, by decide, by decide, fun H4 r4 s4 W4 r40 r41 => ?_⟩
    obtain ⟨k4, rfl⟩ : ∃ k : Nat, r4 = k := ⟨r4.toNat, by omega⟩
    obtain ⟨z, z0, hz⟩ : ∃ z : Int, 0 ≤ z ∧ ([.int r1, .int (3 + r2), .int r3, .int (most : Nat)] : List V)[k4]? = some (.int z) := by
      have : k4 < 4 := by omega
      match k4, this with
      | 0, _ => exact ⟨r1, r10, rfl⟩
      | 1, _ => exact ⟨3 + r2, by omega, rfl⟩
      | 2, _ => exact ⟨r3, r30, rfl⟩
      | 3, _ => exact ⟨most, by omega, rfl⟩
      | k + 4, h => omega
    refine ⟨t, _, k4, .int z, rfl, rfl, SqL.of (s4 _ _ upd_same ta tg), atI_nat hz, _, _, rfl, ?_⟩
    obtain ⟨mn, hmn, hmn2⟩ : ∃ mn : Nat, (if z < (most : Int) then z else (most : Int)) = (mn : Int) ∧ mn ≤ most := by
      split
      · exact ⟨z.toNat, by omega, by omega⟩
      · exact ⟨most, rfl, Nat.le_refl _⟩
    rw [hmn]
    have S4 : SmW a g H H4 := (((s1.trans s2).trans s3).trans (SmW.of st)).trans s4
    clear s1 s2 s3 s4 st W1 W2 W3
    -- if size == 1
    refine ⟨_, rfl, rfl, _, rfl, ite2 (fun e => ?_) fun e => ?_⟩
    · exact ⟨Nat.zero_le _, fun p np => q _ p [] (S4.trans (SmW.of (same_new np))) ((W4.keep (same_new np)).le (by omega)) upd_same KB.Word.nil (Nat.zero_le _)⟩
    have n1 : ¬ n = 1 := fun z => e (by rw [z]; exact decide_eq_true rfl)
    -- kind
    refine ⟨_, rfl, a, g, 6, _, rfl, W4, by omega, by decide, by decide, fun H5 kd s5 W5 kd0 kd1 => ?_⟩
    have S5 := S4.trans s5
    -- row
    refine ⟨_, rfl, mn, rfl, by omega, by omega, fun D nD => ?_⟩
    obtain ⟨Da, Dg⟩ := wa W5 nD
    refine lc_range (lo := 0) (n := mn) (fun i H' => ∃ l, SmW a g H5 H' ∧ Well H' a g (c + 5 + 2 * i) ∧ H' D = some (.lst (vi l)) ∧ l.length = i ∧ KB.Word n l)
      ⟨[], SmW.of (same_new nD), (W5.keep (same_new nD)).le (by omega), upd_same, rfl, KB.Word.nil⟩ ?_ ?_
    · rintro i H' hi ⟨l, s6, W6, eD, hl, hw⟩
      refine ⟨rfl, ?_⟩
      refine ⟨_, rfl, _, rfl, _, _, rfl, rfl, a, g, (n : Int) - 1, _, rfl, W6, by omega, by omega, by omega, fun H7 x s7 W7 x0 x1 => ?_⟩
      refine ⟨_, _, rfl, rfl, _, rfl, a, g, 2, _, rfl, W7, by omega, by decide, by decide, fun H8 y s8 W8 y0 y1 => ?_⟩
      refine ⟨_, _, rfl, rfl, .inl ⟨by decide, by decide⟩, _, _, rfl, rfl, _, _, rfl, rfl, .inl ⟨by omega, by omega⟩, ?_⟩
      have eD8 := s8 _ _ (s7 _ _ eD Da Dg) Da Dg
      refine ⟨vi l, eD8, by rw [List.length_map, sizeLine_eq]; omega, l ++ [(1 + x) * (1 - 2 * y)], ?_, ?_, ?_, ?_, ?_⟩
      · intro u o eu h1 h2
        rw [upd_ne (ne_of_none eu nD)]
        exact s8 _ _ (s7 _ _ (s6 _ _ eu h1 h2) h1 h2) h1 h2
      · obtain ⟨b, m, k, gs, h1, h2, h3⟩ := W8
        exact ⟨b, m, k, gs, by rw [upd_ne Da.symm]; exact h1, by rw [upd_ne Dg.symm]; exact h2, h3.1, h3.2.1, h3.2.2.1, by have := h3.2.2.2.1; omega, h3.2.2.2.2⟩
      · rw [upd_same, vi_app]
        rfl
      · rw [List.length_append, hl]
        rfl
      · exact hw.app (KB.Word.cons (ok_drawn (by omega) x0 x1 y0 y1) KB.Word.nil)
    rintro H6 ⟨l, s6, W6, eD, hl, hw⟩
    have fin : ∀ H' p l', Same H6 H' → H' p = some (.tup (vi l')) → KB.Word n l' → l'.length ≤ mn → Q (.ref p) H' := fun H' p l' s e h1 h2 => q H' p l' ((S5.trans s6).trans (SmW.of s)) ((W6.keep s).le (by omega)) e h1 (by omega)
    clear q
    -- kind == 0
    refine ⟨_, rfl, rfl, _, rfl, ite2 (fun e => ?_) fun _ => ?_⟩
    · refine ⟨_, rfl, noPart ⟨1, rfl, ?_⟩⟩
      refine ⟨D, vi l, rfl, SqL.of eD, fun p np => ?_⟩
      have sp := same_new (o := .lst (cutV (vi l) none (some ((1 : Nat) : Int)))) np
      refine ⟨_, rfl, p, mn, _, rfl, rfl, upd_same, by omega, by omega, ?_, fun p2 np2 => ?_⟩
      · rw [show (some (1 : Int)) = some ((1 : Nat) : Int) from rfl, cut_take, List.length_take, sizeLine_eq]
        have : min 1 (vi l).length * (mn : Int).toNat ≤ 1 * (mn : Int).toNat := Nat.mul_le_mul_right _ (Nat.min_le_left _ _)
        omega
      · refine ⟨p2, _, rfl, .inl ⟨SqL.of upd_same, fun p3 np3 => ?_⟩⟩
        refine fin _ p3 (List.replicate mn (l.take 1)).flatten (new_same (new_same sp np2) np3) ?_ (word_rep (word_take hw)) (len_rep _ _ (by rw [List.length_take]; omega))
        rw [upd_same, show (some (1 : Int)) = some ((1 : Nat) : Int) from rfl, cut_take, vi_take, show (mn : Int).toNat = mn from rfl, vi_rep]
    -- kind == 1
    refine ⟨_, rfl, rfl, _, rfl, ite2 (fun e => ?_) fun _ => ?_⟩
    · refine ⟨_, rfl, D, rfl, ⟨_, SqL.of eD⟩, fun D2 nD2 => ?_⟩
      refine lc_list (xs := vi l) (fun i H' => Same H6 H' ∧ H' D2 = some (.lst (vi ((l.take i).map fun c => if c < 0 then -c else c)))) ⟨same_new nD2, upd_same⟩ (fun i H' _ h => SqL.of (h.1 _ _ eD)) ?_ ?_
      · rintro i x H' hx ⟨s7, e7⟩
        obtain ⟨c', hc', rfl⟩ := vi_get hx
        refine ⟨rfl, ?_⟩
        refine ⟨_, rfl, _, rfl, _, e7, by rw [List.length_map, List.length_map, List.length_take, sizeLine_eq]; omega, put_same s7 nD2, ?_⟩
        rw [upd_same, take_succ hc', List.map_append, vi_app]
        rfl
      · rintro H' ⟨s7, e7⟩
        rw [List.length_map, List.take_of_length_le (Nat.le_refl _)] at e7
        refine ⟨D2, _, rfl, .inl ⟨SqL.of e7, fun p np => ?_⟩⟩
        exact fin _ p _ (new_same s7 np) upd_same (word_abs hw) (by rw [List.length_map]; omega)
    -- kind == 2
    refine ⟨_, rfl, rfl, _, rfl, ite2 (fun e => ?_) fun _ => ?_⟩
    · refine ⟨_, rfl, noPart ⟨_, rfl, _, _, rfl, rfl, ⟨by decide, by decide⟩, _, rfl, ?_⟩⟩
      refine ⟨D, vi l, rfl, SqL.of eD, fun p np => ?_⟩
      have ep : ∀ H' : Hp, H' p = some (.lst (cutV (vi l) none (some ((mn : Int) / 2)))) → H' p = some (.lst (vi (l.take (mn / 2)))) := fun H' e => by
        rw [e, show (mn : Int) / 2 = ((mn / 2 : Nat) : Int) by omega, cut_take, vi_take]
      have sp := same_new (o := .lst (cutV (vi l) none (some ((mn : Int) / 2)))) np
      have ep1 := ep _ (upd_same (H := H6))
      generalize hh : l.take (mn / 2) = h2 at *
      have hw2 : KB.Word n h2 := hh ▸ word_take hw
      have hl2 : h2.length = mn / 2 := by rw [← hh, List.length_take]; omega
      refine ⟨_, rfl, _, rfl, p, vi h2, rfl, .inl ⟨SqL.of ep1, fun D2 nD2 => ?_⟩⟩
      refine lc_it walk_revL (fun i H1 => Same (upd H6 p (.lst (cutV (vi l) none (some ((mn : Int) / 2))))) H1 ∧ H1 D2 = some (.lst (vi ((h2.reverse.take i).map fun c => -c)))) ⟨same_new nD2, upd_same⟩ (fun i H1 _ h => SqL.of (h.1 _ _ ep1)) ?_ ?_
      · rintro i x H1 H1' hi ⟨s1, e1⟩ ⟨rfl, hx⟩
        rw [List.length_map] at hi
        have hx2 : (vi h2.reverse)[i]? = some x := by
          show (List.map V.int h2.reverse)[i]? = _
          rw [List.map_reverse, ← rev_at (by rw [List.length_map]; exact hi)]
          exact hx
        obtain ⟨c', hc', rfl⟩ := vi_get hx2
        refine ⟨rfl, ?_⟩
        refine ⟨_, rfl, _, rfl, _, e1, by rw [List.length_map, List.length_map, List.length_take, List.length_reverse, sizeLine_eq]; omega, put_same s1 nD2, ?_⟩
        rw [upd_same, List.take_add_one, hc']
        show _ = some (HO.lst (List.map V.int (List.map _ (_ ++ [c']))))
        rw [List.map_append, List.map_append]
        rfl
      · rintro H1 ⟨s1, e1⟩
        rw [List.length_map, List.take_of_length_le (by rw [List.length_reverse]; exact Nat.le_refl _)] at e1
        refine ⟨p, D2, vi h2, _, rfl, rfl, s1 _ _ ep1, e1, by rw [List.length_map, List.length_map, List.length_map, List.length_reverse, sizeLine_eq]; omega, fun p2 np2 => ?_⟩
        refine ⟨p2, _, rfl, .inl ⟨SqL.of upd_same, fun p3 np3 => ?_⟩⟩
        refine fin _ p3 (h2 ++ h2.reverse.map fun c => -c) (new_same (new_same (sp.trans s1) np2) np3) (by rw [upd_same, vi_app]) (hw2.app (KB.Word.neg hw2.rev)) ?_
        rw [List.length_append, List.length_map, List.length_reverse]
        omega
    -- kind == 3
    refine ⟨_, rfl, rfl, _, rfl, ite2 (fun e => ?_) fun _ => ?_⟩
    · refine ⟨_, rfl, mn, rfl, by omega, by omega, fun D2 nD2 => ?_⟩
      refine lc_range (lo := 0) (n := mn) (fun i H' => ∃ l', Same H6 H' ∧ H' D2 = some (.lst (vi l')) ∧ l'.length = i ∧ KB.Word n l') ⟨[], same_new nD2, upd_same, rfl, KB.Word.nil⟩ ?_ ?_
      · rintro i H' hi ⟨l', s7, e7, hl', hw'⟩
        refine ⟨rfl, ?_⟩
        obtain ⟨c0, hc0⟩ : ∃ c0, l[0]? = some c0 := ⟨l[0]'(by omega), List.getElem?_eq_getElem (by omega)⟩
        have m1 := Int.emod_nonneg (0 + (i : Nat)) (show (n : Int) - 1 ≠ 0 by omega)
        have m2 := Int.emod_lt_of_pos (0 + (i : Nat)) (show (0 : Int) < (n : Int) - 1 by omega)
        refine ⟨_, rfl, .inl ⟨_, rfl, _, rfl, _, _, rfl, rfl, _, _, rfl, rfl, by show (0 : Int) < (n : Int) - 1; omega, _, _, rfl, rfl, ?_⟩⟩
        refine ⟨_, rfl, D, _, 0, .int c0, rfl, rfl, SqL.of (s7 _ _ eD), atV (k := 0) rfl hc0, _, _, rfl, rfl, .inr ⟨_, rfl, _, _, rfl, rfl, .inl ⟨by decide, by decide⟩, _, _, rfl, rfl, _, _, rfl, rfl, .inl ⟨by omega, by omega⟩, ?_⟩⟩
        refine ⟨vi l', e7, by rw [List.length_map, sizeLine_eq]; omega, l' ++ [(1 + (0 + (i : Nat)) % ((n : Int) - 1)) * (1 - 2 * (if decide (c0 < 0) = true then 1 else 0))], put_same s7 nD2, ?_, ?_, ?_⟩
        · rw [upd_same, vi_app]
          rfl
        · rw [List.length_append, hl']
          rfl
        · exact hw'.app (KB.Word.cons (ok_drawn (by omega) m1 m2 (by split <;> decide) (by split <;> decide)) KB.Word.nil)
      · rintro H' ⟨l', s7, e7, hl', hw'⟩
        refine ⟨D2, _, rfl, .inl ⟨SqL.of e7, fun p np => ?_⟩⟩
        exact fin _ p l' (new_same s7 np) upd_same hw' (by omega)
    -- return tuple(row)
    refine ⟨_, rfl, D, _, rfl, .inl ⟨SqL.of eD, fun p np => ?_⟩⟩
    exact fin _ p l (same_new np) upd_same hw (by omega)
end
end KP

set_option Elab.async false
set_option linter.all false
set_option maxRecDepth 100000
set_option maxHeartbeats 4000000
namespace KP
open PySem PySem.Spec L2 KN
open PyProof.Rows hiding St
theorem scl_same : FnScope ["_law_found", "_law_due_here", "_law_k"] ["_law_found", "_law_due_here"] (defScope (topS 31)) := ⟨rfl, rfl, rfl, by decide +kernel, rfl, by decide +kernel, by decide +kernel⟩
section
variable {X : Cx}
theorem op_is_ib : OpR X (compareOp .Is) (fun x y H Q => ∃ (i : Int) (b : Bool), x = .int i ∧ y = .bl b ∧ Q (.bl false) H) := by
  intro pins s σ H x y v u Q I rx ry h
  obtain ⟨i, b, rfl, rfl, q⟩ := h
  obtain ⟨t, rfl⟩ := rx
  cases (show u = Value.bool b from ry)
  exact wpAny_is_other rfl (fun z => nomatch z) ⟨.bl false, H, I, rfl, q⟩
theorem op_isnot_ib : OpR X (compareOp .IsNot) (fun x y H Q => ∃ (i : Int) (b : Bool), x = .int i ∧ y = .bl b ∧ Q (.bl true) H) := by
  intro pins s σ H x y v u Q I rx ry h
  obtain ⟨i, b, rfl, rfl, q⟩ := h
  obtain ⟨t, rfl⟩ := rx
  cases (show u = Value.bool b from ry)
  exact wpAny_isNot_other rfl (fun z => nomatch z) ⟨.bl true, H, I, rfl, q⟩
end
/-- equal data, so many tuples deep -/
def EqD (H : Hp) : Nat → V → V → Prop
  | 0, _, _ => False
  | d + 1, x, y => (∃ i : Int, x = .int i ∧ y = .int i) ∨ ∃ (a b : Addr) (xs ys : List V), x = .ref a ∧ y = .ref b ∧ H a = some (.tup xs) ∧ H b = some (.tup ys) ∧ xs.length = ys.length ∧ xs.length ≤ sizeLine ∧ ∀ (i : Nat) (u v : V), xs[i]? = some u → ys[i]? = some v → EqD H d u v
theorem EqD.keep {H H' : Hp} (s : Same H H') : ∀ (d : Nat) (x y : V), EqD H d x y → EqD H' d x y
  | 0, _, _, h => h
  | d + 1, x, y, h => by
    rcases h with h | ⟨a, b, xs, ys, e1, e2, e3, e4, e5, e6, e7⟩
    · exact .inl h
    · exact .inr ⟨a, b, xs, ys, e1, e2, s _ _ e3, s _ _ e4, e5, e6, fun i u v hu hv => EqD.keep s d u v (e7 i u v hu hv)⟩
/-- two told polynomials -/
theorem eqd_lp {H : Hp} {a b : Addr} {L : KB.LP} (h1 : LpAt H a L) (h2 : LpAt H b L) : EqD H 3 (.ref a) (.ref b) := by
  obtain ⟨ts, e1, ⟨l1, f1⟩, hl⟩ := h1
  obtain ⟨us, e2, ⟨l2, f2⟩, _⟩ := h2
  refine .inr ⟨a, b, _, _, rfl, rfl, e1, e2, by rw [List.length_map, List.length_map, l1, l2], by rw [List.length_map, l1]; exact hl, fun i u v hu hv => ?_⟩
  rw [List.getElem?_map] at hu hv
  cases q1 : ts[i]? with
  | none => rw [q1] at hu; cases hu
  | some t1 =>
    cases q2 : us[i]? with
    | none => rw [q2] at hv; cases hv
    | some t2 =>
      rw [q1] at hu
      rw [q2] at hv
      obtain rfl : V.ref t1 = u := Option.some.inj hu
      obtain rfl : V.ref t2 = v := Option.some.inj hv
      have hi : i < L.length := by
        rw [← l1]
        exact (List.getElem?_eq_some_iff.mp q1).1
      have g := List.getElem?_eq_getElem hi
      refine .inr ⟨t1, t2, _, _, rfl, rfl, f1 i t1 _ q1 g, f2 i t2 _ q2 g, rfl, by show 2 ≤ sizeLine; decide, fun j x y hx hy => ?_⟩
      rw [hx] at hy
      obtain rfl := Option.some.inj hy
      match j, hx with
      | 0, hx => exact .inl ⟨_, (Option.some.inj hx).symm, (Option.some.inj hx).symm⟩
      | 1, hx => exact .inl ⟨_, (Option.some.inj hx).symm, (Option.some.inj hx).symm⟩
      | j + 2, hx => simp at hx
section
variable {P : Program} {w : World} {K : PySem.W.Frag} {mg : Str → Option Value} {base : Heap}
def spSame (d : Nat) : Sp := fun vs H Q _ => ∃ x y, vs = [x, y] ∧ EqD H d x y ∧ ∀ H', Same H H' → Q (.bl true) H'
theorem okl_same0 {f : Addr} {fd : FuncData} : FnOk P w K mg base CX0 0 f fd ["_law_found", "_law_due_here"] (spSame 0) := by
  refine ⟨fun vs H Q E h => ?_, fun A outer s H args us vs Q E _ _ _ _ h => ?_⟩
  · obtain ⟨x, y, _, h, _⟩ := h
    exact h.elim
  · obtain ⟨x, y, _, h, _⟩ := h
    exact h.elim
theorem okl_same {f : Addr} {fd : FuncData} (F : Fun K "_law_same" "_law_same" (topS 31) f fd) (T : Bt mg) (d : Nat) (c : Cal P w K mg base "_law_same" d ["_law_found", "_law_due_here"] (spSame d)) : FnOk P w K mg base CX0 (d + 1) f fd ["_law_found", "_law_due_here"] (spSame (d + 1)) := by
  refine F.ok scl_same (fun vs H Q E h => ?_) (fun cdv A outer s H vs Q E hr h => ?_)
  · obtain ⟨x, y, rfl, _⟩ := h
    rfl
  · obtain ⟨x, y, rfl, h, q⟩ := h
    have nd := scl_same.nd
    refine ⟨_, pss_cons (ps_if (pt_val (pe_callB call_isiT (by rfl) T.isinstance (by decide +kernel) (pa_cons (pv 1) (pa_cons (pe_tup (pa_cons (pe_bltn (v := .ty "tuple") (by rfl) T.tuple boot_tuple rfl) (pa_cons (pe_bltn (v := .ty "list") (by rfl) T.list boot_list rfl) pa_nil))) pa_nil))))
        (pss_cons (ps_if (pw_or (pt_cmpR op_ne (pe_callB call_isi (by rfl) T.isinstance (by decide +kernel) (pa_cons (pv 0) (pa_cons (pe_bltn (v := .ty "tuple") (by rfl) T.tuple boot_tuple rfl) pa_nil))) (pe_callB call_isi (by rfl) T.isinstance (by decide +kernel) (pa_cons (pv 1) (pa_cons (pe_bltn (v := .ty "tuple") (by rfl) T.tuple boot_tuple rfl) pa_nil))) (nomark _))
            (pw_or1 (pt_cmpR op_ne (pe_callB call_isi (by rfl) T.isinstance (by decide +kernel) (pa_cons (pv 0) (pa_cons (pe_bltn (v := .ty "list") (by rfl) T.list boot_list rfl) pa_nil))) (pe_callB call_isi (by rfl) T.isinstance (by decide +kernel) (pa_cons (pv 1) (pa_cons (pe_bltn (v := .ty "list") (by rfl) T.list boot_list rfl) pa_nil))) (nomark _)))).pt (pss_one ps_never) pss_nil)
        (pss_cons (ps_if (pt_cmpR op_ne (pe_callB call_len_seq (by rfl) T.len (by decide +kernel) (pa_cons (pv 0) pa_nil)) (pe_callB call_len_seq (by rfl) T.len (by decide +kernel) (pa_cons (pv 1) pa_nil)) (nomark _)) (pss_one ps_never) pss_nil)
        (pss_one (ps_ret (pe_callB (cr_all rfl) (by rfl) T.all (by decide +kernel) (pa_cons
          (pe_lc (own := [("_law_k", 2)]) (g := gName 2) (tt := tYes) (by rfl) nd (pi_range1 (by rfl) T.range (pa_cons (pe_callB call_len_seq (by rfl) T.len (by decide +kernel) (pa_cons (pv 1) pa_nil)) pa_nil)) (blkOk_by (own := [("_law_k", 2)]) (N := ["_law_found", "_law_due_here", "_law_k"]) (sc := defScope (topS 31)) (by decide +kernel))
            (fun _ _ _ _ _ => pg_name (i := 2) nd rfl (Or.inl rfl)) (fun _ _ _ _ _ => pts_nil)
            (fun _ _ _ _ _ => pe_cal c hr (by rfl) (pa_cons (pe_ix (r := rIxT K) ix_tup (pv 0) (pv 2) (fun _ _ => rfl)) (pa_cons (pe_ix (r := rIxT K) ix_tup (pv 1) (pv 2) (fun _ _ => rfl)) pa_nil)))) pa_nil)))))) pss_nil)
      (pss_cons (ps_if (pw_or (pt_cmpR op_isN (pv 1) pe_non (nomark _)) (pw_or (pt_cmpR op_is_ib (pv 1) pe_bl (nomark _)) (pw_or1 (pt_cmpR op_is_ib (pv 1) pe_bl (nomark _))))).pt (pss_one ps_never) pss_nil)
      (pss_cons (ps_if (pt_val (pe_callB call_isi (by rfl) T.isinstance (by decide +kernel) (pa_cons (pv 1) (pa_cons (pe_bltn (v := .ty "str") (by rfl) T.str boot_str rfl) pa_nil)))) (pss_one ps_never) pss_nil)
      (pss_one (ps_ret (pe_and (pe_callB call_isi (by rfl) T.isinstance (by decide +kernel) (pa_cons (pv 0) (pa_cons (pe_bltn (v := .ty "int") (by rfl) T.int boot_int rfl) pa_nil)))
        (pe_and (pe_cmpR op_isnot_ib (pv 0) pe_bl (nomark _)) (pe_and (pe_cmpR op_isnot_ib (pv 0) pe_bl (nomark _)) (pe_one (pe_cmpR op_eq (pv 0) (pv 1) (nomark _)))))))))), ?_⟩
    refine ⟨_, rfl, by show 2 ≤ sizeLine; decide, fun tp ntp => ?_⟩
    have st := same_new (o := .tup [.ty "tuple", .ty "list"]) ntp
    rcases h with ⟨i, rfl, rfl⟩ | ⟨a, b, xs, ys, rfl, rfl, e3, e4, e5, e6, e7⟩
    · refine ⟨.int i, tp, _, _, _, false, rfl, upd_same, .cons (.ty _) (.cons (.ty _) .nil), .base (.int i), kitAny_cons (b := false) (kit_ty (by decide +kernel)) (fun _ => kitAny_cons (b := false) (kit_ty (by decide +kernel)) (fun _ => kitAny_nil) (fun z => nomatch z)) (fun z => nomatch z), false, rfl, iteF ?_⟩
      refine ⟨_, rfl, rfl, _, rfl, ite2 (fun e => nomatch (of_decide_eq_true e)) fun _ => ⟨_, rfl, i, true, rfl, rfl, false, rfl, iteF ⟨_, rfl, i, false, rfl, rfl, false, rfl, iteF ?_⟩⟩⟩
      refine ⟨_, rfl, .int i, _, _, _, false, rfl, .ty _, .base (.int i), kit_ty (by decide +kernel), false, rfl, iteF ?_⟩
      refine ⟨_, rfl, .int i, _, _, _, true, rfl, .ty _, .base (.int i), kit_ty (by decide +kernel), true, rfl, iteT ?_⟩
      refine ⟨_, rfl, i, true, rfl, rfl, true, rfl, iteT ⟨_, rfl, i, false, rfl, rfl, true, rfl, iteT ⟨_, rfl, _, rfl, rfl, ?_⟩⟩⟩
      rw [decide_eq_true rfl]
      exact q _ st
    · have g3 := st _ _ e3
      have g4 := st _ _ e4
      refine ⟨.ref b, tp, _, _, _, true, rfl, upd_same, .cons (.ty _) (.cons (.ty _) .nil), .base (.tup g4), kitAny_cons (b := true) (kit_ty (by decide +kernel)) (fun z => nomatch z) (fun _ => rfl), true, rfl, iteT ?_⟩
      refine ⟨_, rfl, .ref a, _, _, _, true, rfl, .ty _, .base (.tup g3), kit_ty (by decide +kernel), ?_⟩
      refine ⟨_, rfl, .ref b, _, _, _, true, rfl, .ty _, .base (.tup g4), kit_ty (by decide +kernel), rfl, _, rfl, iteNS rfl ?_⟩
      refine ⟨_, rfl, .ref a, _, _, _, false, rfl, .ty _, .base (.tup g3), kit_ty (by decide +kernel), ?_⟩
      refine ⟨_, rfl, .ref b, _, _, _, false, rfl, .ty _, .base (.tup g4), kit_ty (by decide +kernel), rfl, _, rfl, iteNS rfl ?_⟩
      refine ⟨_, rfl, a, xs, rfl, .inr (SqT.of g3), ?_⟩
      refine ⟨_, rfl, b, ys, rfl, .inr (SqT.of g4), rfl, _, rfl, iteNS (by rw [e5]) ?_⟩
      refine ⟨_, rfl, b, ys, rfl, .inr (SqT.of g4), ys.length, rfl, by omega, by rw [← e5]; rw [sizeLine_eq] at e6; omega, fun D nD => ?_⟩
      refine lc_range (lo := 0) (n := ys.length) (fun i H' => Same (upd H tp (.tup [.ty "tuple", .ty "list"])) H' ∧ H' D = some (.lst ((List.replicate i true).map V.bl))) ⟨same_new nD, upd_same⟩ ?_ ?_
      · rintro i H' hi ⟨s1, e1⟩
        rw [show (0 : Int) + (i : Nat) = (i : Int) from Int.zero_add _]
        refine ⟨rfl, ?_⟩
        have hi' : i < xs.length := by omega
        have q1 := List.getElem?_eq_getElem hi'
        have q2 := List.getElem?_eq_getElem hi
        refine ⟨_, rfl, _, rfl, a, _, _, _, rfl, rfl, SqT.of (s1 _ _ g3), atI_nat q1, _, rfl, _, rfl, b, _, _, _, rfl, rfl, SqT.of (s1 _ _ g4), atI_nat q2, ?_⟩
        refine ⟨_, _, rfl, EqD.keep (st.trans s1) d _ _ (e7 i _ _ q1 q2), fun H2 s2 => ?_⟩
        refine ⟨_, s2 _ _ e1, by rw [List.length_map, List.length_replicate]; omega, put_same (s1.trans s2) nD, ?_⟩
        rw [upd_same, List.replicate_succ', List.map_append]
        rfl
      · rintro H' ⟨s1, e1⟩
        refine ⟨D, List.replicate ys.length true, rfl, SqL.of e1, ?_⟩
        rw [show (List.replicate ys.length true).all id = true by rw [List.all_eq_true]; intro x hx; exact (List.mem_replicate.mp hx).2]
        exact q _ (st.trans s1)
end
end KP

set_option Elab.async false
set_option linter.all false
set_option maxRecDepth 100000
set_option maxHeartbeats 4000000
namespace KP
open PySem PySem.Spec L2 KN
open PyProof.Rows hiding St
/-- a def to be called by its parameters' names -/
structure CalW (P : Program) (w : World) (K : PySem.W.Frag) (mg : Str → Option Value) (base : Heap) (x : Str) (k : Nat) (ps ks : List Str) (g : List Value → List Value → List Value) (gV : List V → List V → List V) (sp : Sp) : Prop where
  ex : ∃ f fd, FnOk P w K mg base CX0 k f fd ps sp ∧ mg x = some (.ref f) ∧ PySem.W.keepIn K (.ref f) = true ∧ KBn K fd ps 0 ks g gV
theorem pe_calW {X : Cx} {x : Str} {k : Nat} {ps ks : List Str} {sp : Sp} {kws : List Keyword} {p pos : Pos} {tk : TA} {g : List Value → List Value → List Value} {gV : List V → List V → List V} (c : CalW X.prog X.w X.K X.mg X.base x k ps ks g gV sp) (hr : Room k X.A) (hg : Gl X x) (hkw : PK X kws tk)
    (hall : (backToKw pos (keywordEach kws X.env)).all (·.1.isSome) = true := by rfl) (hks : (backToKw pos (keywordEach kws X.env)).filterMap (·.1) = ks := by rfl) (hdb : (x == ("__debug__" : Str)) = false := by decide)
    (hpl : ((backTo pos (starEach [] X.env)).any (·.1) || (backToKw pos (keywordEach kws X.env)).any (·.1.isNone)) = false := by rfl) :
    PE X (.Call (.Name x p) [] kws pos) (tCallN 0 ks.length sp gV E0 tNil tk) := by
  obtain ⟨f, fd, F, hm, hk, hb⟩ := c.ex
  refine ⟨fun pins s σ H Q I h => ?_⟩
  refine wpAny_Call_Name_kw (ld_glob I hg hm ?_ hdb)
  refine PySem.W.callWith_KW0 (h₀ := X.base) I.ok.mod.kin hk hall ?_ hpl
  refine thn (hkw.run pos pins s σ H _ I h) fun ws s2 ⟨zs, H2, I2, rz, l1, l2, q2⟩ => ⟨I2.kIn, ?_⟩
  rw [hks]
  exact run_fnN (us := []) (vs := []) F hr hb pass0 I2 .nil rz rfl l2 q2
end KP

set_option Elab.async false
set_option linter.all false
set_option maxRecDepth 100000
set_option maxHeartbeats 4000000
namespace KP
open PySem PySem.Spec L2 KN
open PyProof.Rows hiding St
open RT (ItvT pi_revA iRevA)
abbrev oNames : List Str := ["_law_well_here", "_law_size_here", "_law_crossings_here", "_law_due_here", "_law_here", "_law_k", "_law_turned_due", "_law_behind", "_law_place", "_law_number", "_law_power", "_law_coefficient"]
theorem scl_others : FnScope oNames ["_law_well_here", "_law_size_here", "_law_crossings_here", "_law_due_here"] (defScope (topS 43)) := ⟨rfl, rfl, rfl, by decide +kernel, rfl, by decide +kernel, by decide +kernel⟩
theorem LpAt.keepW {a g : Addr} {H H' : Hp} {d : Addr} {L : KB.LP} {c : Nat} (s : SmW a g H H') (hW : Well H a g c) (h : LpAt H d L) : LpAt H' d L := by
  obtain ⟨_, _, _, _, w1, w2, _⟩ := hW
  have k : ∀ b xs, H b = some (.tup xs) → H' b = some (.tup xs) := fun b xs e => s _ _ e (some_ne e w1) (some_ne e w2)
  obtain ⟨ts, h1, h2, h3⟩ := h
  exact ⟨ts, k _ _ h1, h2.keep k, h3⟩
theorem tupW {a g : Addr} {H H' : Hp} {c : Nat} (s : SmW a g H H') (hW : Well H a g c) : ∀ b xs, H b = some (.tup xs) → H' b = some (.tup xs) := fun b xs e => by
  obtain ⟨_, _, _, _, w1, w2, _⟩ := hW
  exact s _ _ e (some_ne e w1) (some_ne e w2)
theorem word_up {n : Nat} {l : List Int} (h : KB.Word n l) : KB.Word (n + 1) l := fun d hd => ⟨(h d hd).1, by have := (h d hd).2; omega⟩
theorem iteNN {c A B : Prop} [Decidable c] (h : ¬ c) (x : A) : if (!decide c) = true then A else B := by
  rw [decide_eq_false h]
  exact x
section
variable {P : Program} {w : World} {K : PySem.W.Frag} {mg : Str → Option Value} {base : Heap}
def spOthers : Sp := fun vs H Q _ => ∃ (a g p d : Addr) (n c : Nat) (l : List Int) (L : KB.LP), vs = [.ref a, .int n, .ref p, .ref d] ∧ Well H a g c ∧ c < 1000000 ∧ H p = some (.tup (vi l)) ∧ 0 < n ∧ n < 6 ∧ KB.Word n l ∧ l.length ≤ 12 ∧ KB.Canon L (KB.poly n l) ∧ LpAt H d L ∧
  ∀ H', SmW a g H H' → Well H' a g (c + 10) → Q (.bl true) H'
theorem okl_others {f : Addr} {fd : FuncData} (F : Fun K "_law_others_right" "_law_others_right" (topS 43) f fd) (T : Bt mg) (cD : Cal P w K mg base "_law_draw" 1 ["_law_well_here", "_law_limit"] spDraw) (cT : Cal P w K mg base "turned_word" 2 ["word"] spTurned)
    (cE : Cal P w K mg base "_law_same" 3 ["_law_found", "_law_due_here"] (spSame 3)) (cP : Cal P w K mg base "closed_poly" 5 ["n", "word"] spPoly) (cU : Cal P w K mg base "undone" 2 ["word"] spUndone) (cL : Cal P w K mg base "longer" 3 ["n", "word", "sign"] spLonger)
    (cM : Cal P w K mg base "moved" 3 ["n", "word", "at"] spMoved) : FnOk P w K mg base CX0 6 f fd ["_law_well_here", "_law_size_here", "_law_crossings_here", "_law_due_here"] spOthers := by
  refine F.ok scl_others (fun vs H Q E h => ?_) (fun cdv A outer s H vs Q E hr h => ?_)
  · obtain ⟨a, g, p, d, n, c, l, L, rfl, _⟩ := h
    rfl
  · obtain ⟨a, g, p, d, n, c, l, L, rfl, hW, hc, hp, h0, h6, hw, h12, hC, hL, q⟩ := h
    have nd := scl_others.nd
    have hu := hr.units
    have hr1 : Room 1 _ := hr.mono (by decide)
    have hr2 : Room 2 _ := hr.mono (by decide)
    have hr3 : Room 3 _ := hr.mono (by decide)
    refine ⟨_, pss_cons (ps_set (i := 4) nd rfl (.inl rfl) (pv 2))
      (pss_cons (ps_for PassesOwn.never rfl (pi_range1 (by rfl) T.range (pa_cons (pe_cal cD hr1 (by rfl) (pa_cons (pv 0) (pa_cons (pe_callB (call_max2 rfl) (by rfl) T.max (by decide +kernel) (pa_cons pe_int (pa_cons (pe_callB call_len (by rfl) T.len (by decide +kernel) (pa_cons (pv 2) pa_nil)) pa_nil))) pa_nil))) pa_nil)) (pg_name (i := 5) nd rfl (.inl rfl))
        (pss_one (ps_set (i := 4) nd rfl (.inl rfl) (pe_cal cT hr2 (by rfl) (pa_cons (pv 4) pa_nil)))))
      (pss_cons (ps_if (pt_not (pt_val (pe_cal cE hr3 (by rfl) (pa_cons (pe_cal cP hr (by rfl) (pa_cons (pv 1) (pa_cons (pv 4) pa_nil))) (pa_cons (pv 3) pa_nil))))) (pss_one ps_never) pss_nil)
      (pss_cons (ps_set (i := 6) nd rfl (.inl rfl) (pe_callTy call_tuple_of (by rfl) T.tuple (by decide +kernel) (pa_cons (pe_lc (own := [("_law_power", 10), ("_law_coefficient", 11)]) (g := gTup K 2 _) (tt := tYes) (by rfl) nd (pi_revA (by rfl) T.reversed (pv 3)) (blkOk_by (own := [("_law_power", 10), ("_law_coefficient", 11)]) (N := oNames) (sc := defScope (topS 43)) (by decide +kernel))
          (fun _ _ _ _ _ => pg_tup rfl (pgs_cons (pg_name (i := 10) nd rfl (Or.inl rfl)) (pgs_cons (pg_name (i := 11) nd rfl (Or.inl rfl)) pgs_nil))) (fun _ _ _ _ _ => pts_nil)
          (fun _ _ _ _ _ => pe_tup (pa_cons (pe_op op_sub pe_int (pv 10)) (pa_cons (pv 11) pa_nil)))) pa_nil)))
      (pss_cons (ps_if (pt_not (pt_val (pe_cal cE hr3 (by rfl) (pa_cons (pe_cal cP hr (by rfl) (pa_cons (pv 1) (pa_cons (pe_cal cU hr2 (by rfl) (pa_cons (pv 2) pa_nil)) pa_nil))) (pa_cons (pv 6) pa_nil))))) (pss_one ps_never) pss_nil)
      (pss_cons (ps_if (pw_and (pt_cmpR op_lt (pv 1) pe_int (nomark _)) (pw_and1 (pt_cmpR op_lt (pe_callB call_len (by rfl) T.len (by decide +kernel) (pa_cons (pv 2) pa_nil)) pe_int (nomark _)))).pt
        (pss_one (ps_if (pt_not (pt_val (pe_cal cE hr3 (by rfl) (pa_cons (pe_cal cP hr (by rfl) (pa_cons (pe_op op_add (pv 1) pe_int) (pa_cons (pe_cal cL hr3 (by rfl) (pa_cons (pv 1) (pa_cons (pv 2) (pa_cons (pe_op op_sub pe_int (pe_op op_mul pe_int (pe_cal cD hr1 (by rfl) (pa_cons (pv 0) (pa_cons pe_int pa_nil))))) pa_nil)))) pa_nil))) (pa_cons (pv 3) pa_nil))))) (pss_one ps_never) pss_nil)) pss_nil)
      (pss_cons (ps_if (pt_cmpR (op_neD hu) (pv 2) (pe_tup pa_nil) (nomark _))
        (pss_cons (ps_set (i := 7) nd rfl (.inl rfl) (pe_cal cM hr3 (by rfl) (pa_cons (pv 1) (pa_cons (pv 2) (pa_cons (pe_cal cD hr1 (by rfl) (pa_cons (pv 0) (pa_cons (pe_callB call_len (by rfl) T.len (by decide +kernel) (pa_cons (pv 2) pa_nil)) pa_nil))) pa_nil)))))
        (pss_one (ps_if (pw_and (pt_cmpR op_notN (pv 7) pe_non (nomark _)) (pw_and1 (pt_not (pt_val (pe_cal cE hr3 (by rfl) (pa_cons (pe_cal cP hr (by rfl) (pa_cons (pv 1) (pa_cons (pv 7) pa_nil))) (pa_cons (pv 3) pa_nil))))))).pt (pss_one ps_never) pss_nil))) pss_nil)
      (pss_cons (ps_if (pw_and (pt_cmpR op_gt (pv 1) pe_int (nomark _)) (pw_and1 (pt_cmpR op_lt (pe_callB call_len (by rfl) T.len (by decide +kernel) (pa_cons (pv 2) pa_nil)) pe_int (nomark _)))).pt
        (pss_cons (ps_par (i := 8) (j := 9) rfl nd rfl rfl (by decide) rfl rfl (pa_cons (pe_cal cD hr1 (by rfl) (pa_cons (pv 0) (pa_cons (pe_op op_add (pe_callB call_len (by rfl) T.len (by decide +kernel) (pa_cons (pv 2) pa_nil)) pe_int) pa_nil))) (pa_cons (pe_op op_add pe_int (pe_cal cD hr1 (by rfl) (pa_cons (pv 0) (pa_cons (pe_op op_sub (pv 1) pe_int) pa_nil)))) pa_nil)) (by rfl))
        (pss_one (ps_ret (pe_cal cE hr3 (by rfl) (pa_cons (pe_cal cP hr (by rfl) (pa_cons (pv 1) (pa_cons (pe_op op_catA (pe_op op_catA (pe_slice sl_tupA (pv 2) po_none (po_some (pv 8))) (pe_tup (pa_cons (pe_un un_neg (pv 9)) (pa_cons (pv 9) pa_nil)))) (pe_slice sl_tupA (pv 2) (po_some (pv 8)) po_none)) pa_nil))) (pa_cons (pv 3) pa_nil)))))) pss_nil)
      (pss_one (ps_ret pe_bl))))))))), ?_⟩
    -- here = cr; for k in range(draw(well, max(1, len(cr))))
    obtain ⟨mx, hmx, m0, m1⟩ : ∃ mx : Int, (if (l.length : Int) > 1 then (l.length : Int) else 1) = mx ∧ 0 < mx ∧ (mx = l.length ∨ (mx = 1 ∧ l.length ≤ 1)) := by
      split
      · exact ⟨_, rfl, by omega, .inl rfl⟩
      · exact ⟨1, rfl, by omega, .inr ⟨rfl, by omega⟩⟩
    refine ⟨_, rfl, _, rfl, _, rfl, _, l.length, rfl, .inr ⟨_, SqT.of hp, by rw [List.length_map]⟩, _, _, rfl, ?_⟩
    refine ⟨a, g, mx, c, by rw [← hmx]; rfl, hW, by omega, m0, by omega, fun H1 r s1 W1 r0 r1 => ?_⟩
    obtain ⟨k, rfl⟩ : ∃ k : Nat, r = k := ⟨r.toNat, by omega⟩
    have hp1 := tupW s1 hW _ _ hp
    have hL1 := hL.keepW s1 hW
    refine ⟨k, rfl, by omega, by omega, ?_⟩
    refine for_range (lo := 0) (n := k) (fun i σ H2 => ∃ (p2 : Addr) (m : List Int) (y5 y6 y7 y8 y9 y10 y11 : Option V), σ = [some (.ref a), some (.int n), some (.ref p), some (.ref d), some (.ref p2), y5, y6, y7, y8, y9, y10, y11] ∧ Same H1 H2 ∧ H2 p2 = some (.tup (vi m)) ∧ KB.Word n m ∧ KB.poly n m = KB.poly n l ∧ m.length = l.length)
      ⟨p, l, _, _, _, _, _, _, _, rfl, Same.refl _, hp1, hw, rfl, rfl⟩ ?_ ?_
    · rintro i σ H2 hi ⟨p2, m, y5, y6, y7, y8, y9, y10, y11, rfl, s2, e2, wm, pm, lm⟩
      cases m with
      | nil =>
        simp only [List.length_nil] at lm
        omega
      | cons c0 m =>
        simp only [List.length_cons] at lm
        refine ⟨_, rfl, p2, c0, m, rfl, e2, fun d hd => (wm d hd).1, by omega, fun H3 p3 s3 e3 => ?_⟩
        exact ⟨p3, m ++ [c0], _, _, _, _, _, _, _, rfl, s2.trans s3, e3, wm.tail.app (KB.Word.cons wm.head KB.Word.nil), by rw [KB.poly_turn h6 h0 wm]; exact pm, by rw [List.length_append]; exact lm⟩
    rintro σ H2 ⟨p2, m, y5, y6, y7, y8, y9, y10, y11, rfl, s2, e2, wm, pm, lm⟩
    -- if not same(closed_poly(size, here), due)
    refine ⟨_, rfl, _, rfl, p2, m, n, rfl, e2, h0, h6, wm, by omega, fun H3 q3 L3 s3 c3 l3 => ?_⟩
    have E3 : L3 = L := KB.Canon.eq c3 (by rw [pm]; exact hC)
    rw [E3] at l3
    refine ⟨_, rfl, _, _, rfl, eqd_lp l3 ((hL1.keep s2).keep s3), fun H4 s4 => ⟨true, rfl, iteF ?_⟩⟩
    have S4 := (s2.trans s3).trans s4
    have W4 := W1.keep S4
    have hp4 := S4 _ _ hp1
    have hL4 := hL1.keep S4
    have T4 : SmW a g H H4 := s1.trans (SmW.of S4)
    clear hL1 s2 s3 s4 S4 l3 c3 E3 e2 wm pm lm W1 hp1 s1
    -- turned_due
    have ⟨ts, ed, lt, lL⟩ := hL4
    have lts := lt.1
    refine ⟨_, rfl, d, ts.map V.ref, rfl, .inr ⟨SqT.of ed, fun D nD => ?_⟩⟩
    refine lc_it walk_revT (fun i H5 => Same H4 H5 ∧ ∃ us, H5 D = some (.lst (us.map V.ref)) ∧ LpTs H5 us ((L.reverse.take i).map fun e => (0 - e.1, e.2))) ⟨same_new nD, [], upd_same, LpTs.nil _⟩ (fun i H5 _ h => SqT.of (h.1 _ _ ed)) ?_ ?_
    · rintro i x H5 H5' hi ⟨s5, us, eD, lu⟩ ⟨rfl, hx⟩
      rw [List.length_map] at hi
      rw [List.getElem?_map, List.length_map] at hx
      cases ht : ts[ts.length - 1 - i]? with
      | none => rw [ht] at hx; cases hx
      | some t =>
        rw [ht] at hx
        obtain rfl : V.ref t = x := Option.some.inj hx
        obtain ⟨e, he⟩ : ∃ e, L.reverse[i]? = some e := ⟨L.reverse[i]'(by rw [List.length_reverse]; omega), List.getElem?_eq_getElem _⟩
        have he' : L[ts.length - 1 - i]? = some e := by rw [lts, rev_at (by omega)]; exact he
        have et := s5 _ _ (lt.2 _ t e ht he')
        refine ⟨t, _, rfl, SqT.of et, rfl, _, _, rfl, _, _, rfl, rfl, ?_⟩
        refine ⟨rfl, ?_⟩
        refine ⟨_, rfl, _, _, rfl, rfl, _, rfl, by show 2 ≤ sizeLine; decide, fun t2 nt2 => ?_⟩
        have Dt : D ≠ t2 := ne_of_none eD nt2
        have lus := lu.1
        rw [List.length_map, List.length_take, List.length_reverse] at lus
        refine ⟨_, by rw [upd_ne Dt]; exact eD, by rw [List.length_map]; omega, put_same (new_same s5 nt2) nD, us ++ [t2], ?_, ?_⟩
        · rw [upd_same, List.map_append]
          rfl
        · rw [take_succ he, List.map_append]
          have keep : ∀ b xs, H5' b = some (.tup xs) → (upd (upd H5' t2 (.tup [.int (0 - e.1), .int e.2])) D (.lst (us.map V.ref ++ [.ref t2]))) b = some (.tup xs) := fun b xs e => by
            rw [upd_ne (some_ne e eD), upd_ne (ne_of_none e nt2)]
            exact e
          exact (lu.keep keep).snoc (by rw [upd_ne Dt.symm]; exact upd_same)
    rintro H5 ⟨s5, us, eD, lu⟩
    rw [List.length_map, List.take_of_length_le (by rw [List.length_reverse, lts]; exact Nat.le_refl _)] at lu
    refine ⟨D, _, rfl, .inl ⟨SqL.of eD, fun td ntd => ?_⟩⟩
    have s6 := new_same s5 ntd (o := .tup (us.map V.ref))
    have htd : LpAt (upd H5 td (.tup (us.map V.ref))) td (L.reverse.map fun e => (0 - e.1, e.2)) := ⟨us, upd_same, lu.keep fun b xs e => by rw [upd_ne (ne_of_none e ntd)]; exact e, by rw [List.length_map, List.length_reverse]; exact lL⟩
    generalize upd H5 td (.tup (us.map V.ref)) = H6 at *
    clear lu eD lt
    -- if not same(closed_poly(size, undone(cr)), turned_due)
    refine ⟨_, rfl, _, rfl, p, l, rfl, s6 _ _ hp4, fun c hc => (hw c hc).1, by omega, fun H7 u7 s7 e7 => ?_⟩
    refine ⟨u7, _, n, rfl, e7, h0, h6, KB.Word.neg hw.rev, by rw [List.length_map, List.length_reverse]; exact h12, fun H8 q8 L8 s8 c8 l8 => ?_⟩
    have E8 : L8 = L.reverse.map fun e => (0 - e.1, e.2) := KB.Canon.eq c8 (by rw [KB.poly_undone h6 h0 hw]; exact hC.mir)
    rw [E8] at l8
    refine ⟨_, rfl, _, _, rfl, eqd_lp l8 ((htd.keep s7).keep s8), fun H9 s9 => ⟨true, rfl, iteF ?_⟩⟩
    have S9 := ((s6.trans s7).trans s8).trans s9
    have W9 := W4.keep S9
    have hp9 := S9 _ _ hp4
    have hL9 := hL4.keep S9
    have T9 := T4.trans (SmW.of S9)
    clear s6 s7 s8 s9 S9 l8 c8 E8 W4 hp4 hL4 T4 htd ed e7
    -- if size < 5 and len(cr) < 12
    refine ⟨_, rfl, _, _, rfl, rfl, _, rfl, ite2 (fun e5 => ?b1) fun _ => ?b2⟩
    case' b1 =>
      have e5' : (n : Int) < 5 := of_decide_eq_true e5
      refine ⟨_, rfl, _, l.length, rfl, .inr ⟨_, SqT.of hp9, by rw [List.length_map]⟩, _, _, rfl, rfl, _, rfl, ite2 (fun e6 => ?b3) fun _ => ?b4⟩
    case' b3 =>
      have e6' : (l.length : Int) < 12 := of_decide_eq_true e6
      refine ⟨_, rfl, _, _, rfl, rfl, _, rfl, _, rfl, _, rfl, a, g, 2, c + 1, rfl, W9, by omega, by decide, by decide, fun Ha r sa Wa r0 r1 => ?_⟩
      have hpa := tupW sa W9 _ _ hp9
      refine ⟨_, _, rfl, rfl, .inl ⟨by decide, by decide⟩, _, _, rfl, rfl, p, l, n, 1 - 2 * r, rfl, hpa, h0, by omega, hw, by omega, by omega, fun Hb pb sb eb => ?_⟩
      have hz : (n : Int) * (1 - 2 * r) = n ∨ (n : Int) * (1 - 2 * r) = -n := by
        rcases (show r = 0 ∨ r = 1 by omega) with rfl | rfl
        · exact .inl (by omega)
        · exact .inr (by omega)
      have hzw : KB.Word (n + 1) (l ++ [(n : Int) * (1 - 2 * r)]) := (word_up hw).app (KB.Word.cons (by unfold KB.Ok; rcases hz with z | z <;> rw [z] <;> omega) KB.Word.nil)
      refine ⟨pb, _, n + 1, rfl, eb, by omega, by omega, hzw, by rw [List.length_append]; show l.length + 1 ≤ 12; omega, fun Hc qc Lc sc cc lc => ?_⟩
      have Ec : Lc = L := KB.Canon.eq cc (by rw [KB.poly_long (by omega) h0 hw hz]; exact hC)
      rw [Ec] at lc
      have hLa := hL9.keepW sa W9
      refine ⟨_, rfl, _, _, rfl, eqd_lp lc ((hLa.keep sb).keep sc), fun H9 s9 => ⟨true, rfl, iteF ?_⟩⟩
      have S9 := (sb.trans sc).trans s9
      have W9 := Wa.keep S9
      have hp9 := S9 _ _ hpa
      have hL9 := hLa.keep S9
      have T9 := (T9.trans sa).trans (SmW.of S9)
    case' b4 =>
      have W9 := W9.le (show c + 1 ≤ c + 1 + 1 by omega)
    case' b2 =>
      refine iteF ?_
      have W9 := W9.le (show c + 1 ≤ c + 1 + 1 by omega)
    all_goals
      -- if cr != ()
      refine ⟨_, rfl, Nat.zero_le _, fun t nt => ?_⟩
      have st := same_new (o := .tup []) nt
      refine neNil_t (st _ _ hp9) upd_same ⟨_, rfl, ?_⟩
      have hp9 := st _ _ hp9
      have hL9 := hL9.keep st
      have W9 := W9.keep st
      have T9 := T9.trans (SmW.of st)
      cases hlm : l.isEmpty
      case' true =>
        refine iteF ?_
        have W9 := W9.le (show c + 1 + 1 ≤ c + 1 + 1 + 1 by omega)
      case' false =>
        have hl0 : 0 < l.length := by
          cases l with
          | nil => cases hlm
          | cons _ _ => exact Nat.succ_pos _
        refine iteT ⟨_, rfl, _, rfl, _, rfl, _, rfl, _, l.length, rfl, .inr ⟨_, SqT.of hp9, by rw [List.length_map]⟩, a, g, (l.length : Nat), c + 1 + 1, rfl, W9, by omega, by omega, by omega, fun Ha r sa Wa r0 r1 => ?_⟩
        obtain ⟨j, rfl⟩ : ∃ j : Nat, r = j := ⟨r.toNat, by omega⟩
        have hpa := tupW sa W9 _ _ hp9
        have hLa := hL9.keepW sa W9
        refine ⟨p, l, n, j, rfl, hpa, h0, h6, hw, by omega, by omega, fun H9 sb => ?_, fun Hb pb m sb eb wm lm pm => ?_⟩
      case' false.refine_1 =>
        refine ⟨_, rfl, rfl, _, rfl, iteNS rfl (iteF ?_)⟩
        have W9 := Wa.keep sb
        have hp9 := sb _ _ hpa
        have hL9 := hLa.keep sb
        have T9 := (T9.trans sa).trans (SmW.of sb)
      case' false.refine_2 =>
        refine ⟨_, rfl, rfl, _, rfl, iteNN (fun z => nomatch z) ?_⟩
        refine ⟨_, rfl, _, rfl, pb, m, n, rfl, eb, h0, h6, wm, by omega, fun Hc qc Lc sc cc lc => ?_⟩
        have Ec : Lc = L := KB.Canon.eq cc (by rw [pm]; exact hC)
        rw [Ec] at lc
        refine ⟨_, rfl, _, _, rfl, eqd_lp lc ((hLa.keep sb).keep sc), fun H9 s9 => ⟨true, rfl, iteF ?_⟩⟩
        have S9 := (sb.trans sc).trans s9
        have W9 := Wa.keep S9
        have hp9 := S9 _ _ hpa
        have hL9 := hLa.keep S9
        have T9 := (T9.trans sa).trans (SmW.of S9)
    all_goals
      -- if size > 1 and len(cr) < 11
      refine ⟨_, rfl, _, _, rfl, rfl, _, rfl, ite2 (fun e5 => ?_) fun _ => iteF (q _ T9 (W9.le (by omega)))⟩
      have e5' : (1 : Int) < n := of_decide_eq_true e5
      refine ⟨_, rfl, _, l.length, rfl, .inr ⟨_, SqT.of hp9, by rw [List.length_map]⟩, _, _, rfl, rfl, _, rfl, ite2 (fun e6 => ?_) fun _ => q _ T9 (W9.le (by omega))⟩
      have e6' : (l.length : Int) < 11 := of_decide_eq_true e6
      refine ⟨_, rfl, _, rfl, _, l.length, rfl, .inr ⟨_, SqT.of hp9, by rw [List.length_map]⟩, _, _, rfl, rfl, a, g, (l.length : Int) + 1, _, rfl, W9, by omega, by omega, by omega, fun Ha r sa Wa r0 r1 => ?_⟩
      obtain ⟨j, rfl⟩ : ∃ j : Nat, r = j := ⟨r.toNat, by omega⟩
      refine ⟨_, rfl, _, rfl, _, _, rfl, rfl, a, g, (n : Int) - 1, _, rfl, Wa, by omega, by omega, by omega, fun Hb x sb Wb x0 x1 => ?_⟩
      refine ⟨_, _, rfl, rfl, _, _, rfl, ?_⟩
      have hpb := tupW sb Wa _ _ (tupW sa W9 _ _ hp9)
      have hLb := (hL9.keepW sa W9).keepW sb Wa
      have Tb := (T9.trans sa).trans sb
      refine ⟨_, rfl, _, rfl, noPart ⟨_, rfl, _, rfl, ?_⟩⟩
      refine slA hpb fun Hc u sc eu => ?_
      rw [cut_take, vi_take] at eu
      refine ⟨_, rfl, _, rfl, _, rfl, by show 2 ≤ sizeLine; decide, fun t2 nt2 => ?_⟩
      have s2 := same_new (o := .tup [.int (-(1 + x)), .int (1 + x)]) nt2
      refine catA (s2 _ _ eu) upd_same (by rw [List.length_map, List.length_take, sizeLine_eq]; show _ + 2 ≤ _; omega) fun Hd pd sd ed => ?_
      refine ⟨_, rfl, _, rfl, _, rfl, noPart ?_⟩
      refine slA (sd _ _ (s2 _ _ (sc _ _ hpb))) fun He ue se eue => ?_
      rw [cut_drop, vi_drop] at eue
      refine catA (se _ _ ed) eue (by rw [List.length_append, List.length_map, List.length_map, List.length_take, List.length_drop, sizeLine_eq]; show _ + 2 + _ ≤ _; omega) fun Hf pf sf ef => ?_
      have okx : KB.Ok n (-(1 + x)) := by unfold KB.Ok; omega
      have okx' : KB.Ok n (1 + x) := by unfold KB.Ok; omega
      have wf : KB.Word n (l.take j ++ [-(1 + x), 1 + x] ++ l.drop j) := ((word_take hw).app (KB.Word.cons okx (KB.Word.cons okx' KB.Word.nil))).app fun d hd => hw d (List.mem_of_mem_drop hd)
      have pf' : KB.poly n (l.take j ++ [-(1 + x), 1 + x] ++ l.drop j) = KB.poly n l := by
        have := KB.poly_inv h6 h0 (a := l.take j) (b := l.drop j) (word_take hw) okx
        rw [Int.neg_neg, List.take_append_drop] at this
        exact this
      refine ⟨pf, l.take j ++ [-(1 + x), 1 + x] ++ l.drop j, n, rfl, by rw [ef, vi_app, vi_app]; rfl, h0, h6, wf, by rw [List.length_append, List.length_append, List.length_take, List.length_drop]; show _ + 2 + _ ≤ 12; omega, fun Hg qg Lg sg cg lg => ?_⟩
      have Eg : Lg = L := KB.Canon.eq cg (by rw [pf']; exact hC)
      rw [Eg] at lg
      have Sg := ((((sc.trans s2).trans sd).trans se).trans sf).trans sg
      refine ⟨_, rfl, _, _, rfl, eqd_lp lg (hLb.keep Sg), fun Hh sh => ?_⟩
      exact q _ (Tb.trans (SmW.of (Sg.trans sh))) ((Wb.keep (Sg.trans sh)).le (by omega))
end
end KP

set_option Elab.async false
set_option linter.all false
set_option maxRecDepth 100000
set_option maxHeartbeats 4000000
namespace KP
open PySem PySem.Spec L2 KN
open PyProof.Rows hiding St
theorem scl_law : FnScope ["_law_script", "_law_well_here", "_law_rows", "_law_turn", "_law_size_here", "_law_crossings_here", "_law_due_here"] ["_law_script"] (defScope (topS 44)) := ⟨rfl, rfl, rfl, by decide +kernel, rfl, by decide +kernel, by decide +kernel⟩
/-- a size and its crossings stand at t -/
def RowOk (H : Hp) (t : Addr) : Prop := ∃ (n : Nat) (c : Addr) (l : List Int), H t = some (.tup [.int n, .ref c]) ∧ H c = some (.tup (vi l)) ∧ 0 < n ∧ n < 6 ∧ KB.Word n l ∧ l.length ≤ 12
theorem RowOk.keepT {H H' : Hp} {t : Addr} (s : ∀ b xs, H b = some (.tup xs) → H' b = some (.tup xs)) (h : RowOk H t) : RowOk H' t := by
  obtain ⟨n, c, l, h1, h2, h3⟩ := h
  exact ⟨n, c, l, s _ _ h1, s _ _ h2, h3⟩
section
variable {P : Program} {w : World} {K : PySem.W.Frag} {mg : Str → Option Value} {base : Heap}
def spLaw (K : PySem.W.Frag) : Sp := fun vs H Q _ => ∃ (a : Addr) (ns : List Int), vs = [.ref a] ∧ SqL K H a (vi ns) ∧ ns.length ≤ 63 ∧ ∀ H', Q (.bl true) H'
theorem okl_law {f : Addr} {fd : FuncData} (F : Fun K "law" "law" (topS 44) f fd) (T : Bt mg) (cW : Cal P w K mg base "_law_well" 1 ["_law_script"] (spWell K)) (cS : Cal P w K mg base "_law_size" 2 ["_law_well_here"] splSize)
    (cC : Cal P w K mg base "_law_crossings" 2 ["_law_well_here", "_law_size_here", "_law_most"] splCross) (cD : Cal P w K mg base "_law_due" 3 ["_law_size_here", "_law_crossings_here"] spDue)
    (cE : Cal P w K mg base "_law_same" 3 ["_law_found", "_law_due_here"] (spSame 3)) (cP : Cal P w K mg base "closed_poly" 5 ["n", "word"] spPoly)
    (cK : CalW P w K mg base "closed_poly" 5 ["n", "word"] ["word", "n"] (fun _ ws => ws.reverse) (fun _ zs => zs.reverse) spPoly)
    (cO : Cal P w K mg base "_law_others_right" 6 ["_law_well_here", "_law_size_here", "_law_crossings_here", "_law_due_here"] spOthers) : FnOk P w K mg base CX0 7 f fd ["_law_script"] (spLaw K) := by
  refine F.ok scl_law (fun vs H Q E h => ?_) (fun cdv A outer s H vs Q E hr h => ?_)
  · obtain ⟨a, ns, rfl, _⟩ := h
    rfl
  · obtain ⟨sa, ns, rfl, hsa, hns, q⟩ := h
    have nd := scl_law.nd
    have hr1 : Room 1 _ := hr.mono (by decide)
    have hr2 : Room 2 _ := hr.mono (by decide)
    have hr3 : Room 3 _ := hr.mono (by decide)
    have hr5 : Room 5 _ := hr.mono (by decide)
    refine ⟨_, pss_cons (ps_set (i := 1) nd rfl (.inl rfl) (pe_cal cW hr1 (by rfl) (pa_cons (pv 0) pa_nil)))
      (pss_cons (ps_set (i := 2) nd rfl (.inl rfl) (pe_lst pa_nil))
      (pss_cons (ps_for PassesOwn.never rfl (pi_range1 (by rfl) T.range (pa_cons pe_int pa_nil)) (pg_name (i := 3) nd rfl (.inl rfl))
        (pss_cons (ps_set (i := 4) nd rfl (.inl rfl) (pe_cal cS hr2 (by rfl) (pa_cons (pv 1) pa_nil)))
        (pss_one (ps_expr (pe_bm PySem.F.plainAttrs_list PySem.F.slot_list_append PySem.F.type_list_append mt_append (pv 2) (pa_cons (pe_tup (pa_cons (pv 4) (pa_cons (pe_cal cC hr2 (by rfl) (pa_cons (pv 1) (pa_cons (pv 4) (pa_cons pe_int pa_nil)))) pa_nil))) pa_nil))))))
      (pss_cons (ps_for PassesOwn.never rfl (pi_list (pe_op op_cat (pv 2) (pe_slice sl_list (pv 2) po_none (po_some pe_int)))) (pg_tup rfl (pgs_cons (pg_name (i := 4) nd rfl (.inl rfl)) (pgs_cons (pg_name (i := 5) nd rfl (.inl rfl)) pgs_nil)))
        (pss_cons (ps_set (i := 6) nd rfl (.inl rfl) (pe_cal cD hr3 (by rfl) (pa_cons (pv 4) (pa_cons (pv 5) pa_nil))))
        (pss_cons (ps_if (pt_not (pt_val (pe_cal cE hr3 (by rfl) (pa_cons (pe_cal cP hr5 (by rfl) (pa_cons (pv 4) (pa_cons (pv 5) pa_nil))) (pa_cons (pv 6) pa_nil))))) (pss_one ps_never) pss_nil)
        (pss_cons (ps_if (pt_not (pt_val (pe_cal cE hr3 (by rfl) (pa_cons (pe_calW cK hr5 (by rfl) (pk_cons (pv 5) (pk_cons (pv 4) pk_nil))) (pa_cons (pv 6) pa_nil))))) (pss_one ps_never) pss_nil)
        (pss_one (ps_if (pt_not (pt_val (pe_cal cO hr (by rfl) (pa_cons (pv 1) (pa_cons (pv 4) (pa_cons (pv 5) (pa_cons (pv 6) pa_nil))))))) (pss_one ps_never) pss_nil))))))
      (pss_one (ps_ret pe_bl))))), ?_⟩
    -- well; rows = []
    refine ⟨_, rfl, sa, ns, rfl, hsa, hns, fun H1 a g s1 na ng W1 => ?_⟩
    refine ⟨Nat.zero_le _, fun D nD => ?_⟩
    have sD := same_new (o := .lst []) nD
    have hDa : D ≠ a := by
      obtain ⟨_, _, _, _, w1, w2, _⟩ := W1
      exact (ne_of_none w1 nD).symm
    have hDg : D ≠ g := by
      obtain ⟨_, _, _, _, w1, w2, _⟩ := W1
      exact (ne_of_none w2 nD).symm
    refine ⟨3, rfl, by decide, by decide, ?_⟩
    refine for_range (lo := 0) (n := 3) (fun i σ H2 => ∃ (ts : List Addr) (y3 y4 y5 y6 : Option V), σ = [some (.ref sa), some (.ref a), some (.ref D), y3, y4, y5, y6] ∧ Well H2 a g (41 * i) ∧ H2 D = some (.lst (ts.map V.ref)) ∧ ts.length = i ∧ ∀ t ∈ ts, RowOk H2 t)
      ⟨[], _, _, _, _, rfl, W1.keep sD, upd_same, rfl, fun _ ht => nomatch ht⟩ ?_ ?_
    · rintro i σ H2 hi ⟨ts, y3, y4, y5, y6, rfl, W2, e2, l2, o2⟩
      refine ⟨_, rfl, a, g, _, rfl, W2, by omega, fun H3 n s3 W3 n0 n6 => ?_⟩
      have e3 := s3 _ _ e2 hDa hDg
      refine ⟨_, rfl, .inl ⟨rfl, _, SqL.of e3⟩, _, rfl, _, rfl, _, rfl, a, g, n, 12, _, rfl, W3, by omega, n0, n6, by decide, fun H4 c l s4 W4 e4 wl ll => ?_⟩
      refine ⟨by show 2 ≤ sizeLine; decide, fun t nt => ?_⟩
      have st := same_new (o := .tup [.int n, .ref c]) nt
      have e4' := st _ _ (s4 _ _ e3 hDa hDg)
      refine ⟨D, _, _, rfl, rfl, e4', by rw [List.length_map, sizeLine_eq]; omega, ?_⟩
      have k5 : ∀ b xs, H4 b = some (.tup xs) → (upd (upd H4 t (.tup [.int n, .ref c])) D (.lst (ts.map V.ref ++ [.ref t]))) b = some (.tup xs) := fun b xs e => by
        rw [upd_ne (some_ne (st _ _ e) e4')]
        exact st _ _ e
      have tD : t ≠ D := some_ne (upd_same (H := H4) (a := t) (o := .tup [.int n, .ref c])) e4'
      refine ⟨ts ++ [t], _, _, _, _, rfl, ?_, ?_, by rw [List.length_append, l2]; rfl, fun u hu => ?_⟩
      · obtain ⟨b, m, k, gs, w1, w2, w3, w4, w5, w6, w7⟩ := W4
        exact ⟨b, m, k, gs, by rw [upd_ne hDa.symm]; exact st _ _ w1, by rw [upd_ne hDg.symm]; exact st _ _ w2, w3, w4, w5, by omega, w7⟩
      · rw [upd_same, List.map_append]
        rfl
      · rcases List.mem_append.mp hu with z | z
        · exact (o2 u z).keepT fun b xs e => k5 _ _ (tupW s4 W3 _ _ (tupW s3 W2 _ _ e))
        · obtain rfl : u = t := by simpa using z
          exact ⟨n, c, l, by rw [upd_ne tD]; exact upd_same, k5 _ _ e4, n0, n6, wl, ll⟩
    rintro σ H2 ⟨ts, y3, y4, y5, y6, rfl, W2, e2, l2, o2⟩
    -- rows + rows[:1]
    refine ⟨_, rfl, _, rfl, noPart ⟨1, rfl, ?_⟩⟩
    refine ⟨D, _, rfl, SqL.of e2, fun D2 nD2 => ?_⟩
    have s3 := same_new (o := .lst (cutV (ts.map V.ref) none (some ((1 : Nat) : Int)))) nD2
    have ecut : cutV (ts.map V.ref) none (some ((1 : Nat) : Int)) = (ts.take 1).map V.ref := by rw [cut_take, List.map_take]
    refine ⟨D, D2, _, _, rfl, rfl, s3 _ _ e2, upd_same, ?_, fun Z nZ => ?_⟩
    · show (ts.map V.ref).length + (cutV (ts.map V.ref) none (some ((1 : Nat) : Int))).length ≤ _
      rw [ecut, List.length_map, List.length_map, List.length_take, sizeLine_eq]
      omega
    have s4 := s3.trans (same_new (o := .lst (ts.map V.ref ++ cutV (ts.map V.ref) none (some ((1 : Nat) : Int)))) nZ)
    have eZ : (upd (upd H2 D2 (.lst (cutV (ts.map V.ref) none (some ((1 : Nat) : Int))))) Z (.lst (ts.map V.ref ++ cutV (ts.map V.ref) none (some ((1 : Nat) : Int))))) Z = some (.lst ((ts ++ ts.take 1).map V.ref)) := by
      rw [upd_same, ecut, List.map_append]
    have o4 : ∀ t ∈ ts ++ ts.take 1, RowOk H2 t := fun t ht => (List.mem_append.mp ht).elim (o2 t) fun z => o2 t (List.mem_of_mem_take z)
    generalize hts : ts ++ ts.take 1 = zs at *
    have hz4 : zs.length ≤ 4 := by rw [← hts, List.length_append, List.length_take]; omega
    have W4 := W2.keep s4
    have hZa : Z ≠ a := by
      obtain ⟨_, _, _, _, w1, w2, _⟩ := W2.keep s3
      exact (ne_of_none w1 nZ).symm
    have hZg : Z ≠ g := by
      obtain ⟨_, _, _, _, w1, w2, _⟩ := W2.keep s3
      exact (ne_of_none w2 nZ).symm
    refine ⟨Z, rfl, ⟨_, SqL.of eZ⟩, ?_⟩
    refine for_list (xs := zs.map V.ref) (fun i σ H5 => ∃ (y3 y4 y5 y6 : Option V), σ = [some (.ref sa), some (.ref a), some (.ref D), y3, y4, y5, y6] ∧ Well H5 a g (123 + 10 * i) ∧ H5 Z = some (.lst (zs.map V.ref)) ∧ ∀ t ∈ zs, RowOk H5 t)
      ⟨_, _, _, _, rfl, W4, eZ, fun t ht => (o4 t ht).keepT fun b xs e => s4 _ _ e⟩ (fun i σ H5 _ h => by obtain ⟨_, _, _, _, _, _, e, _⟩ := h; exact SqL.of e) ?_ ?_
    · rintro i x σ H5 hx ⟨y3, y4, y5, y6, rfl, W5, e5, o5⟩
      rw [List.getElem?_map] at hx
      cases ht : zs[i]? with
      | none => rw [ht] at hx; cases hx
      | some t =>
        rw [ht] at hx
        obtain rfl : V.ref t = x := Option.some.inj hx
        have hi : i < zs.length := (List.getElem?_eq_some_iff.mp ht).1
        obtain ⟨n, c, l, h1, h2, n0, n6, wl, ll⟩ := o5 t (List.mem_of_getElem? ht)
        refine ⟨t, _, rfl, SqT.of h1, rfl, _, _, rfl, _, _, rfl, rfl, ?_⟩
        -- due
        refine ⟨_, rfl, _, rfl, c, l, n, rfl, h2, n0, n6, wl, ll, fun H6 d L s6 cL lL => ?_⟩
        -- closed_poly(size, cr)
        refine ⟨_, rfl, _, rfl, c, l, n, rfl, s6 _ _ h2, n0, n6, wl, ll, fun H7 q7 L7 s7 c7 l7 => ?_⟩
        have E7 : L7 = L := KB.Canon.eq c7 cL
        rw [E7] at l7
        refine ⟨_, rfl, _, _, rfl, eqd_lp l7 (lL.keep s7), fun H8 s8 => ⟨true, rfl, iteF ?_⟩⟩
        -- closed_poly(word=cr, n=size)
        have s68 := (s6.trans s7).trans s8
        refine ⟨_, rfl, _, rfl, rfl, rfl, c, l, n, rfl, s68 _ _ h2, n0, n6, wl, ll, fun H9 q9 L9 s9 c9 l9 => ?_⟩
        have E9 : L9 = L := KB.Canon.eq c9 cL
        rw [E9] at l9
        refine ⟨_, rfl, _, _, rfl, eqd_lp l9 ((lL.keep (s7.trans s8)).keep s9), fun H10 s10 => ⟨true, rfl, iteF ?_⟩⟩
        have s60 := (s68.trans s9).trans s10
        have W10 := W5.keep s60
        -- others_right
        refine ⟨_, rfl, _, rfl, _, rfl, _, rfl, a, g, c, d, n, _, l, L, rfl, W10, by omega, s60 _ _ h2, n0, n6, wl, ll, cL, lL.keep (((s7.trans s8).trans s9).trans s10), fun H11 s11 W11 => ⟨true, rfl, iteF ?_⟩⟩
        exact ⟨_, _, _, _, rfl, W11.le (by omega), s11 _ _ (s60 _ _ e5) hZa hZg, fun u hu => (o5 u hu).keepT fun b xs e => tupW s11 W10 _ _ (s60 _ _ e)⟩
    · rintro σ H5 ⟨y3, y4, y5, y6, rfl, W5, e5, o5⟩
      exact q _
end
end KP

set_option Elab.async false
set_option linter.all false
set_option maxRecDepth 100000
set_option maxHeartbeats 4000000
/-! what the top has written, joined -/
namespace KP
open PySem PySem.Spec L2 KN
open PyProof.Rows hiding St
/-- a def of the top, as it stands -/
def DefIn (K : PySem.W.Frag) (x : Str) (st : Stmt) : Prop := ∃ (f : Addr) (oc : Value) (od an : Option Addr) (osl : Array (Option Value)) (kV doc pm cdv ct : Value), PySem.W.nsIn K mainGlobals x = some (some (.ref f)) ∧
  K.lookup f = some ⟨oc, od, .func (PySem.W.fnOf x x (defArgs st) (defBody st) (defScope st) .none kV doc pm an cdv ct), osl⟩ ∧ PySem.W.codeIn K cdv x = true ∧ PySem.W.keepIn K (.ref f) = true
/-- add_into, its default in a tuple -/
def AddIn (K : PySem.W.Frag) : Prop := ∃ (f T : Addr) (oc : Value) (od an : Option Addr) (osl : Array (Option Value)) (kV doc pm cdv ct : Value) (o : Obj) (n : Nat) (t : Tok), PySem.W.nsIn K mainGlobals "add_into" = some (some (.ref f)) ∧
  K.lookup f = some ⟨oc, od, .func (PySem.W.fnOf "add_into" "add_into" (defArgs (topS 17)) (defBody (topS 17)) (defScope (topS 17)) (.ref T) kV doc pm an cdv ct), osl⟩ ∧ PySem.W.codeIn K cdv "add_into" = true ∧ PySem.W.keepIn K (.ref f) = true ∧ K.lookup T = some o ∧ o.data = .seq #[.int 1 t] n
theorem DefIn.of {K : PySem.W.Frag} {x : Str} {st : Stmt} {f : Addr} {oc : Value} {od an : Option Addr} {osl : Array (Option Value)} {kV doc pm cdv ct : Value} (a : PySem.W.nsIn K mainGlobals x = some (some (.ref f)))
    (l : K.lookup f = some ⟨oc, od, .func (PySem.W.fnOf x x (defArgs st) (defBody st) (defScope st) .none kV doc pm an cdv ct), osl⟩) (c : PySem.W.codeIn K cdv x = true) (k : PySem.W.keepIn K (.ref f) = true) : DefIn K x st :=
  ⟨f, oc, od, an, osl, kV, doc, pm, cdv, ct, a, l, c, k⟩
theorem AddIn.of {K : PySem.W.Frag} {f T : Addr} {oc : Value} {od an : Option Addr} {osl : Array (Option Value)} {kV doc pm cdv ct : Value} {o : Obj} {n : Nat} {t : Tok} (a : PySem.W.nsIn K mainGlobals "add_into" = some (some (.ref f)))
    (l : K.lookup f = some ⟨oc, od, .func (PySem.W.fnOf "add_into" "add_into" (defArgs (topS 17)) (defBody (topS 17)) (defScope (topS 17)) (.ref T) kV doc pm an cdv ct), osl⟩) (c : PySem.W.codeIn K cdv "add_into" = true) (k : PySem.W.keepIn K (.ref f) = true) (lT : K.lookup T = some o) (oT : o.data = .seq #[.int 1 t] n) : AddIn K :=
  ⟨f, T, oc, od, an, osl, kV, doc, pm, cdv, ct, o, n, t, a, l, c, k, lT, oT⟩
section
variable {P : Program} {w : World} {K : PySem.W.Frag} {mg : Str → Option Value} {base h : Heap}
theorem cal_of {x : Str} {st : Stmt} {k : Nat} {ps : List Str} {sp : Sp} (X : K.In h) (G : h.Ns mainGlobals mg) (D : DefIn K x st)
    (hb : ∀ (kV doc pm : Value) (an : Option Addr) (cdv ct : Value) (us : List Value), us.length = ps.length → bindArgs (PySem.W.fnOf x x (defArgs st) (defBody st) (defScope st) .none kV doc pm an cdv ct) ⟨us, []⟩ = pure (ps.zip us))
    (ok : ∀ {f : Addr} {fd : FuncData}, Fun K x x st f fd → FnOk P w K mg base CX0 k f fd ps sp) : Cal P w K mg base x k ps sp := by
  obtain ⟨f, oc, od, an, osl, kV, doc, pm, cdv, ct, a, l, c, kp⟩ := D
  have F := fun_mk (st := st) l c kp
  exact ⟨f, _, ok F, PySem.W.mg_of X G a, kp, F.binds hb⟩
theorem add_of (X : K.In h) (G : h.Ns mainGlobals mg) (D : AddIn K) : CalD P w K mg base "add_into" 1 ["worth", "other", "shift", "factor"] spAdd (.int 1) := by
  obtain ⟨f, T, oc, od, an, osl, kV, doc, pm, cdv, ct, o, n, t, a, l, c, kp, lT, oT⟩ := D
  have F : FunD K "add_into" "add_into" (defArgs (topS 17)) (defBody (topS 17)) (defScope (topS 17)) [.int 1] [] f _ := ⟨⟨oc, od, _, kV, doc, pm, an, cdv, ct, osl, rfl, l, c, .inr ⟨(fun z => nomatch z), T, o, [Value.int 1 t], n, rfl, lT, oT, .cons ⟨t, rfl⟩ .nil⟩, .inl rfl⟩, kp⟩
  obtain ⟨d3, v3, b3⟩ := F.binds1 (ps := ["worth", "other", "shift", "factor"]) 3 0 (fun z => nomatch z) rfl fun T kV doc pm an cdv ct us its hu hi => match us, its, hu, hi with | [_, _, _], [_], _, _ => ⟨_, rfl, rfl⟩
  obtain ⟨d4, v4, b4⟩ := F.binds1 (ps := ["worth", "other", "shift", "factor"]) 4 1 (fun z => nomatch z) rfl fun T kV doc pm an cdv ct us its hu hi => match us, its, hu, hi with | [_, _, _, _], [_], _, _ => ⟨_, rfl, rfl⟩
  cases v4
  exact ⟨f, _, d3, ok_add F, PySem.W.mg_of X G a, kp, b4, v3, b3⟩
theorem vals_rev : ∀ {zs : List V} {ws : List Value}, Vals zs ws → Vals zs.reverse ws.reverse
  | _, _, .nil => .nil
  | _, _, .cons r t => by
    rw [List.reverse_cons, List.reverse_cons]
    exact Paired.snoc (vals_rev t) r
theorem calW_of (X : K.In h) (G : h.Ns mainGlobals mg) (D : DefIn K "closed_poly" (topS 23)) (ok : ∀ {f : Addr} {fd : FuncData}, Fun K "closed_poly" "closed_poly" (topS 23) f fd → FnOk P w K mg base CX0 5 f fd ["n", "word"] spPoly) :
    CalW P w K mg base "closed_poly" 5 ["n", "word"] ["word", "n"] (fun _ ws => ws.reverse) (fun _ zs => zs.reverse) spPoly := by
  obtain ⟨f, oc, od, an, osl, kV, doc, pm, cdv, ct, a, l, c, kp⟩ := D
  have F := fun_mk (st := topS 23) l c kp
  refine ⟨f, _, ok F, PySem.W.mg_of X G a, kp, ⟨fun s us ws _ hu hw => ?_, fun _ r => vals_rev r⟩⟩
  match us, ws, hu, hw with
  | [], [_, _], _, _ => exact .of_eq rfl
/-- the names of the top that the law's walk takes -/
structure TopIn (K : PySem.W.Frag) : Prop where
  d7 : DefIn K "check_size" (topS 7)
  d8 : DefIn K "straight" (topS 8)
  d9 : DefIn K "hook" (topS 9)
  d11 : DefIn K "far_end" (topS 11)
  d12 : DefIn K "loose_rings" (topS 12)
  d13 : DefIn K "put_behind" (topS 13)
  d14 : DefIn K "rings_closed" (topS 14)
  d16 : DefIn K "laurent" (topS 16)
  d18 : DefIn K "with_rings" (topS 18)
  d19 : DefIn K "check_word" (topS 19)
  d20 : DefIn K "check_braid" (topS 20)
  d21 : DefIn K "worths_of" (topS 21)
  d22 : DefIn K "writhe" (topS 22)
  d23 : DefIn K "closed_poly" (topS 23)
  d24 : DefIn K "undone" (topS 24)
  d25 : DefIn K "moved" (topS 25)
  d26 : DefIn K "longer" (topS 26)
  d27 : DefIn K "turned_word" (topS 27)
  d29 : DefIn K "_law_well" (topS 29)
  d30 : DefIn K "_law_draw" (topS 30)
  d32 : DefIn K "_law_put" (topS 32)
  d33 : DefIn K "_law_hook" (topS 33)
  d34 : DefIn K "_law_straight" (topS 34)
  d35 : DefIn K "_law_states" (topS 35)
  d36 : DefIn K "_law_over" (topS 36)
  d37 : DefIn K "_law_with_rings" (topS 37)
  d38 : DefIn K "_law_laurent" (topS 38)
  d39 : DefIn K "_law_closed_rings" (topS 39)
  d40 : DefIn K "_law_size" (topS 40)
  d41 : DefIn K "_law_crossings" (topS 41)
  d42 : DefIn K "_law_due" (topS 42)
  d31 : DefIn K "_law_same" (topS 31)
  d43 : DefIn K "_law_others_right" (topS 43)
  d44 : DefIn K "law" (topS 44)
  d17 : AddIn K
  b_range : PySem.W.nsIn K mainGlobals "range" = some none
  b_len : PySem.W.nsIn K mainGlobals "len" = some none
  b_int : PySem.W.nsIn K mainGlobals "int" = some none
  b_abs : PySem.W.nsIn K mainGlobals "abs" = some none
  b_list : PySem.W.nsIn K mainGlobals "list" = some none
  b_tuple : PySem.W.nsIn K mainGlobals "tuple" = some none
  b_dict : PySem.W.nsIn K mainGlobals "dict" = some none
  b_sorted : PySem.W.nsIn K mainGlobals "sorted" = some none
  b_sum : PySem.W.nsIn K mainGlobals "sum" = some none
  b_all : PySem.W.nsIn K mainGlobals "all" = some none
  b_isinstance : PySem.W.nsIn K mainGlobals "isinstance" = some none
  b_str : PySem.W.nsIn K mainGlobals "str" = some none
  b_min : PySem.W.nsIn K mainGlobals "min" = some none
  b_max : PySem.W.nsIn K mainGlobals "max" = some none
  b_reversed : PySem.W.nsIn K mainGlobals "reversed" = some none
theorem bt_of (X : K.In h) (G : h.Ns mainGlobals mg) (D : TopIn K) : Bt mg :=
  ⟨PySem.W.mg_none_of X G D.b_range, PySem.W.mg_none_of X G D.b_len, PySem.W.mg_none_of X G D.b_int, PySem.W.mg_none_of X G D.b_abs, PySem.W.mg_none_of X G D.b_list, PySem.W.mg_none_of X G D.b_tuple, PySem.W.mg_none_of X G D.b_dict, PySem.W.mg_none_of X G D.b_sorted, PySem.W.mg_none_of X G D.b_sum, PySem.W.mg_none_of X G D.b_all, PySem.W.mg_none_of X G D.b_isinstance, PySem.W.mg_none_of X G D.b_str, PySem.W.mg_none_of X G D.b_min, PySem.W.mg_none_of X G D.b_max, PySem.W.mg_none_of X G D.b_reversed⟩
theorem all_mk {fa : Addr} (X : K.In h) (G : h.Ns mainGlobals mg) (hfa : mg "law" = some (.ref fa)) (D : TopIn K) :
    ∃ fd : FuncData, (∀ (s : Shared) (v : Value), BindsTo s fd ⟨[v], []⟩ [("_law_script", v)]) ∧ ∀ base : Heap, K.In base → base.Ns mainGlobals mg → FnOk P w K mg base CX0 7 fa fd ["_law_script"] (spLaw K) := by
  have T := bt_of X G D
  obtain ⟨f, oc, od, an, osl, kV, doc, pm, cdv, ct, a, l, c, kp⟩ := D.d44
  have e := hfa.symm.trans (PySem.W.mg_of X G a)
  cases e
  have F := fun_mk (st := topS 44) l c kp
  refine ⟨PySem.W.fnOf "law" "law" (defArgs (topS 44)) (defBody (topS 44)) (defScope (topS 44)) .none kV doc pm an cdv ct, fun s v => .of_eq rfl, fun base _ _ => ?_⟩
  have c_add : CalD P w K mg base "add_into" 1 ["worth", "other", "shift", "factor"] spAdd (.int 1) := add_of X G D.d17
  have c_size : Cal P w K mg base "check_size" 1 ["n"] spSize := cal_of X G D.d7 (fun _ _ _ _ _ _ us hl => match us, hl with | [_], _ => rfl) fun F => ok_size F
  have c_str : Cal P w K mg base "straight" 2 ["n"] spStraight := cal_of X G D.d8 (fun _ _ _ _ _ _ us hl => match us, hl with | [_], _ => rfl) fun F => ok_straight F T c_size
  have c_hook : Cal P w K mg base "hook" 3 ["n", "i"] spHook := cal_of X G D.d9 (fun _ _ _ _ _ _ us hl => match us, hl with | [_, _], _ => rfl) fun F => ok_hook F T c_size c_str
  have c_far : Cal P w K mg base "far_end" 1 ["one", "other", "peg", "passed"] spFar := cal_of X G D.d11 (fun _ _ _ _ _ _ us hl => match us, hl with | [_, _, _, _], _ => rfl) fun F => ok_far F
  have c_loose : Cal P w K mg base "loose_rings" 1 ["one", "other", "passed"] spLoose := cal_of X G D.d12 (fun _ _ _ _ _ _ us hl => match us, hl with | [_, _, _], _ => rfl) fun F => ok_loose F T
  have c_put : Cal P w K mg base "put_behind" 2 ["one", "other"] spPut := cal_of X G D.d13 (fun _ _ _ _ _ _ us hl => match us, hl with | [_, _], _ => rfl) fun F => ok_put F T c_far c_loose
  have c_closed : Cal P w K mg base "rings_closed" 3 ["mat"] spClosed := cal_of X G D.d14 (fun _ _ _ _ _ _ us hl => match us, hl with | [_], _ => rfl) fun F => ok_closed F T c_put
  have c_lau : Cal P w K mg base "laurent" 1 ["worth"] spLau := cal_of X G D.d16 (fun _ _ _ _ _ _ us hl => match us, hl with | [_], _ => rfl) fun F => ok_laurent F T
  have c_rings : Cal P w K mg base "with_rings" 2 ["worth", "rings"] spRings := cal_of X G D.d18 (fun _ _ _ _ _ _ us hl => match us, hl with | [_, _], _ => rfl) fun F => ok_rings F T c_add
  have c_word : Cal P w K mg base "check_word" 1 ["word", "n"] spWord := cal_of X G D.d19 (fun _ _ _ _ _ _ us hl => match us, hl with | [_, _], _ => rfl) fun F => ok_word F T
  have c_braid : Cal P w K mg base "check_braid" 2 ["n", "word"] spBraid := cal_of X G D.d20 (fun _ _ _ _ _ _ us hl => match us, hl with | [_, _], _ => rfl) fun F => ok_braid F c_word
  have c_worths : Cal P w K mg base "worths_of" 4 ["n", "word"] (spWorths P w) := cal_of X G D.d21 (fun _ _ _ _ _ _ us hl => match us, hl with | [_, _], _ => rfl) fun F => ok_worths F T c_str c_hook c_add c_put c_rings
  have c_wr : Cal P w K mg base "writhe" 2 ["word"] spWrithe := cal_of X G D.d22 (fun _ _ _ _ _ _ us hl => match us, hl with | [_], _ => rfl) fun F => ok_writhe F T c_word
  have c_poly : Cal P w K mg base "closed_poly" 5 ["n", "word"] spPoly := cal_of X G D.d23 (fun _ _ _ _ _ _ us hl => match us, hl with | [_, _], _ => rfl) fun F => ok_poly F T c_braid c_wr c_worths c_add c_rings c_closed c_lau
  have c_und : Cal P w K mg base "undone" 2 ["word"] spUndone := cal_of X G D.d24 (fun _ _ _ _ _ _ us hl => match us, hl with | [_], _ => rfl) fun F => ok_undone F T c_word
  have c_mov : Cal P w K mg base "moved" 3 ["n", "word", "at"] spMoved := cal_of X G D.d25 (fun _ _ _ _ _ _ us hl => match us, hl with | [_, _, _], _ => rfl) fun F => ok_moved F T c_braid
  have c_lon : Cal P w K mg base "longer" 3 ["n", "word", "sign"] spLonger := cal_of X G D.d26 (fun _ _ _ _ _ _ us hl => match us, hl with | [_, _, _], _ => rfl) fun F => ok_longer F c_braid
  have c_tur : Cal P w K mg base "turned_word" 2 ["word"] spTurned := cal_of X G D.d27 (fun _ _ _ _ _ _ us hl => match us, hl with | [_], _ => rfl) fun F => ok_turned F c_word
  have c_lwell : Cal P w K mg base "_law_well" 1 ["_law_script"] (spWell K) := cal_of X G D.d29 (fun _ _ _ _ _ _ us hl => match us, hl with | [_], _ => rfl) fun F => okl_well F T
  have c_ldraw : Cal P w K mg base "_law_draw" 1 ["_law_well_here", "_law_limit"] spDraw := cal_of X G D.d30 (fun _ _ _ _ _ _ us hl => match us, hl with | [_, _], _ => rfl) fun F => okl_draw F T
  have c_lput : Cal P w K mg base "_law_put" 1 ["_law_ahead", "_law_behind"] splPut := cal_of X G D.d32 (fun _ _ _ _ _ _ us hl => match us, hl with | [_, _], _ => rfl) fun F => okl_put F T
  have c_lhook : Cal P w K mg base "_law_hook" 1 ["_law_size_here", "_law_i"] spHook := cal_of X G D.d33 (fun _ _ _ _ _ _ us hl => match us, hl with | [_, _], _ => rfl) fun F => okl_hook F T
  have c_lstr : Cal P w K mg base "_law_straight" 1 ["_law_size_here"] spStraight := cal_of X G D.d34 (fun _ _ _ _ _ _ us hl => match us, hl with | [_], _ => rfl) fun F => okl_straight F T
  have c_lstates : Cal P w K mg base "_law_states" 2 ["_law_size_here", "_law_crossings_here"] (spStates P w) := cal_of X G D.d35 (fun _ _ _ _ _ _ us hl => match us, hl with | [_, _], _ => rfl) fun F => okl_states F T c_lstr c_lhook c_lput
  have c_lover : Cal P w K mg base "_law_over" 1 ["_law_high", "_law_low"] spOver := cal_of X G D.d36 (fun _ _ _ _ _ _ us hl => match us, hl with | [_, _], _ => rfl) fun F => okl_over F T
  have c_lrings : Cal P w K mg base "_law_with_rings" 2 ["_law_row", "_law_rings", "_law_power", "_law_times"] spLw := cal_of X G D.d37 (fun _ _ _ _ _ _ us hl => match us, hl with | [_, _, _, _], _ => rfl) fun F => okl_rings F T c_lover
  have c_llau : Cal P w K mg base "_law_laurent" 1 ["_law_row"] spLau := cal_of X G D.d38 (fun _ _ _ _ _ _ us hl => match us, hl with | [_], _ => rfl) fun F => okl_laurent F T
  have c_lclosed : Cal P w K mg base "_law_closed_rings" 1 ["_law_mesh"] splClosed := cal_of X G D.d39 (fun _ _ _ _ _ _ us hl => match us, hl with | [_], _ => rfl) fun F => okl_closed F T
  have c_lsize : Cal P w K mg base "_law_size" 2 ["_law_well_here"] splSize := cal_of X G D.d40 (fun _ _ _ _ _ _ us hl => match us, hl with | [_], _ => rfl) fun F => okl_size F c_ldraw
  have c_lcross : Cal P w K mg base "_law_crossings" 2 ["_law_well_here", "_law_size_here", "_law_most"] splCross := cal_of X G D.d41 (fun _ _ _ _ _ _ us hl => match us, hl with | [_, _, _], _ => rfl) fun F => okl_cross F T c_ldraw
  have c_ldue : Cal P w K mg base "_law_due" 3 ["_law_size_here", "_law_crossings_here"] spDue := cal_of X G D.d42 (fun _ _ _ _ _ _ us hl => match us, hl with | [_, _], _ => rfl) fun F => okl_due F T c_lstates c_lrings c_lclosed c_llau
  have c_polyW := calW_of (P := P) (w := w) (base := base) X G D.d23 fun F => ok_poly F T c_braid c_wr c_worths c_add c_rings c_closed c_lau
  have c_same0 : Cal P w K mg base "_law_same" 0 ["_law_found", "_law_due_here"] (spSame 0) := cal_of X G D.d31 (fun _ _ _ _ _ _ us hl => match us, hl with | [_, _], _ => rfl) fun _ => okl_same0
  have c_same1 : Cal P w K mg base "_law_same" 1 ["_law_found", "_law_due_here"] (spSame 1) := cal_of X G D.d31 (fun _ _ _ _ _ _ us hl => match us, hl with | [_, _], _ => rfl) fun F => okl_same F T 0 c_same0
  have c_same2 : Cal P w K mg base "_law_same" 2 ["_law_found", "_law_due_here"] (spSame 2) := cal_of X G D.d31 (fun _ _ _ _ _ _ us hl => match us, hl with | [_, _], _ => rfl) fun F => okl_same F T 1 c_same1
  have c_same3 : Cal P w K mg base "_law_same" 3 ["_law_found", "_law_due_here"] (spSame 3) := cal_of X G D.d31 (fun _ _ _ _ _ _ us hl => match us, hl with | [_, _], _ => rfl) fun F => okl_same F T 2 c_same2
  have c_lothers : Cal P w K mg base "_law_others_right" 6 ["_law_well_here", "_law_size_here", "_law_crossings_here", "_law_due_here"] spOthers := cal_of X G D.d43 (fun _ _ _ _ _ _ us hl => match us, hl with | [_, _, _, _], _ => rfl) fun F => okl_others F T c_ldraw c_tur c_same3 c_poly c_und c_lon c_mov
  exact okl_law F T c_lwell c_lsize c_lcross c_ldue c_same3 c_poly c_polyW c_lothers
end
end KP
open PySem PySem.W PyProof.Rows
set_option maxHeartbeats 0 in
theorem PySem.Challenge.cw_hookmats_k41_whole_closed_braids_by_all_holds : PySem.Challenge.rw_hookmats_k41_whole_closed_braids_by_all.Holds := by
  w_on; o_law; k_head; (case hw => w_witness2)
  k_fill
  refine L2.walk_of (l := PySem.Challenge.rw_hookmats_k41_whole_closed_braids_by_all) (n := 63) (k := 7) (x := "_law_script") (CX := fun _ => L2.CX0) (sp := fun w => KP.spLaw _) rfl (by decide) rfl ⟨rfl, by decide, by decide⟩ (fun w h Y => PySem.W.kIn_of Y) ?F (fun _ _ a ns hl _ hS => ⟨a, ns, rfl, hS, hl, fun _ => rfl⟩) (fun _ _ _ _ _ h => h)
  case F =>
    intro w mg fa h KX G hmg
    refine KP.all_mk KX G hmg ?T
    case T =>
      constructor
      case d7 => refine' KP.DefIn.of ?a ?l ?c ?k; (case a => k_is); (case l => k_is); (case c => k_is); (case k => k_is)
      case d8 => refine' KP.DefIn.of ?a ?l ?c ?k; (case a => k_is); (case l => k_is); (case c => k_is); (case k => k_is)
      case d9 => refine' KP.DefIn.of ?a ?l ?c ?k; (case a => k_is); (case l => k_is); (case c => k_is); (case k => k_is)
      case d11 => refine' KP.DefIn.of ?a ?l ?c ?k; (case a => k_is); (case l => k_is); (case c => k_is); (case k => k_is)
      case d12 => refine' KP.DefIn.of ?a ?l ?c ?k; (case a => k_is); (case l => k_is); (case c => k_is); (case k => k_is)
      case d13 => refine' KP.DefIn.of ?a ?l ?c ?k; (case a => k_is); (case l => k_is); (case c => k_is); (case k => k_is)
      case d14 => refine' KP.DefIn.of ?a ?l ?c ?k; (case a => k_is); (case l => k_is); (case c => k_is); (case k => k_is)
      case d16 => refine' KP.DefIn.of ?a ?l ?c ?k; (case a => k_is); (case l => k_is); (case c => k_is); (case k => k_is)
      case d18 => refine' KP.DefIn.of ?a ?l ?c ?k; (case a => k_is); (case l => k_is); (case c => k_is); (case k => k_is)
      case d19 => refine' KP.DefIn.of ?a ?l ?c ?k; (case a => k_is); (case l => k_is); (case c => k_is); (case k => k_is)
      case d20 => refine' KP.DefIn.of ?a ?l ?c ?k; (case a => k_is); (case l => k_is); (case c => k_is); (case k => k_is)
      case d21 => refine' KP.DefIn.of ?a ?l ?c ?k; (case a => k_is); (case l => k_is); (case c => k_is); (case k => k_is)
      case d22 => refine' KP.DefIn.of ?a ?l ?c ?k; (case a => k_is); (case l => k_is); (case c => k_is); (case k => k_is)
      case d23 => refine' KP.DefIn.of ?a ?l ?c ?k; (case a => k_is); (case l => k_is); (case c => k_is); (case k => k_is)
      case d24 => refine' KP.DefIn.of ?a ?l ?c ?k; (case a => k_is); (case l => k_is); (case c => k_is); (case k => k_is)
      case d25 => refine' KP.DefIn.of ?a ?l ?c ?k; (case a => k_is); (case l => k_is); (case c => k_is); (case k => k_is)
      case d26 => refine' KP.DefIn.of ?a ?l ?c ?k; (case a => k_is); (case l => k_is); (case c => k_is); (case k => k_is)
      case d27 => refine' KP.DefIn.of ?a ?l ?c ?k; (case a => k_is); (case l => k_is); (case c => k_is); (case k => k_is)
      case d29 => refine' KP.DefIn.of ?a ?l ?c ?k; (case a => k_is); (case l => k_is); (case c => k_is); (case k => k_is)
      case d30 => refine' KP.DefIn.of ?a ?l ?c ?k; (case a => k_is); (case l => k_is); (case c => k_is); (case k => k_is)
      case d32 => refine' KP.DefIn.of ?a ?l ?c ?k; (case a => k_is); (case l => k_is); (case c => k_is); (case k => k_is)
      case d33 => refine' KP.DefIn.of ?a ?l ?c ?k; (case a => k_is); (case l => k_is); (case c => k_is); (case k => k_is)
      case d34 => refine' KP.DefIn.of ?a ?l ?c ?k; (case a => k_is); (case l => k_is); (case c => k_is); (case k => k_is)
      case d35 => refine' KP.DefIn.of ?a ?l ?c ?k; (case a => k_is); (case l => k_is); (case c => k_is); (case k => k_is)
      case d36 => refine' KP.DefIn.of ?a ?l ?c ?k; (case a => k_is); (case l => k_is); (case c => k_is); (case k => k_is)
      case d37 => refine' KP.DefIn.of ?a ?l ?c ?k; (case a => k_is); (case l => k_is); (case c => k_is); (case k => k_is)
      case d38 => refine' KP.DefIn.of ?a ?l ?c ?k; (case a => k_is); (case l => k_is); (case c => k_is); (case k => k_is)
      case d39 => refine' KP.DefIn.of ?a ?l ?c ?k; (case a => k_is); (case l => k_is); (case c => k_is); (case k => k_is)
      case d40 => refine' KP.DefIn.of ?a ?l ?c ?k; (case a => k_is); (case l => k_is); (case c => k_is); (case k => k_is)
      case d41 => refine' KP.DefIn.of ?a ?l ?c ?k; (case a => k_is); (case l => k_is); (case c => k_is); (case k => k_is)
      case d42 => refine' KP.DefIn.of ?a ?l ?c ?k; (case a => k_is); (case l => k_is); (case c => k_is); (case k => k_is)
      case d31 => refine' KP.DefIn.of ?a ?l ?c ?k; (case a => k_is); (case l => k_is); (case c => k_is); (case k => k_is)
      case d43 => refine' KP.DefIn.of ?a ?l ?c ?k; (case a => k_is); (case l => k_is); (case c => k_is); (case k => k_is)
      case d44 => refine' KP.DefIn.of ?a ?l ?c ?k; (case a => k_is); (case l => k_is); (case c => k_is); (case k => k_is)
      case d17 => refine' KP.AddIn.of ?a ?l ?c ?k ?lT ?oT; (case a => k_is); (case l => k_is); (case c => k_is); (case k => k_is); (case lT => k_is); (case oT => first | rfl | k_is)
      case b_range => k_is
      case b_len => k_is
      case b_int => k_is
      case b_abs => k_is
      case b_list => k_is
      case b_tuple => k_is
      case b_dict => k_is
      case b_sorted => k_is
      case b_sum => k_is
      case b_all => k_is
      case b_isinstance => k_is
      case b_str => k_is
      case b_min => k_is
      case b_max => k_is
      case b_reversed => k_is
